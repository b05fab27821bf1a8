/-
  The walk of the law VectorLinear.
-/
import Derived.Test.YtblpaocignlpkaaGreatDoorVlin19
import Derived.Test.YtblpaocignlpkaaGreatDoorProofVectorLinear04
import Derived.Test.YtblpaocignlpkaaGreatDoorProofVectorLinear05
import Derived.Test.YtblpaocignlpkaaGreatDoorVlin18
import Derived.Test.YtblpaocignlpkaaGreatDoorVlin10
namespace Go.Proofs.YtblpaocignlpkaaGreatDoor
open Go.RowKit
set_option linter.unusedVariables false
theorem Stb.drawn {α : Type} {R : World → (Nat → Prop) → Value → α → Prop} (hR : Stb R) {w w' : World} {g n : Nat} {v : Value} {x : α} (h : R w (New n w) v x) (hb : w.grownBy w' (some g)) (hg : g < n) : R w' (New n w') v x :=
  hR.to h fun b hb' => ⟨⟨hb'.1, Nat.lt_of_lt_of_le hb'.2 hb.size⟩, fun o => World.cell?_of_block (hb.block b hb'.2 (fun e => by have := hb'.1; cases e; omega))⟩
theorem vectorOf_i {w : World} {g : Nat} {l : List Int} (hD : IsD w g l) {n : Nat} {z : Int} (hz : z = (n : Int)) (hn : n ≤ 40) : Calls Tryz.prog 40 #[.pointer (some ⟨g, 0, none⟩), .int .i64 z] w (DrewR IsV (fun a => ∃ q : List Rat, a = rawV q ∧ q.length = n ∧ ∀ x ∈ q, Drawn 4 x) w g l) := by
  rw [hz]; exact vectorOf_l hD hn
theorem matrix_i {w : World} {g : Nat} {l : List Int} (hD : IsD w g l) {n m : Nat} {z y : Int} (hz : z = (n : Int)) (hy : y = (m : Int)) (hn : n ≤ 5) (hm : m ≤ 5) : Calls Tryz.prog 44 #[.pointer (some ⟨g, 0, none⟩), .int .i64 z, .int .i64 y] w (DrewR IsM (fun a => ∃ M : List (List Rat), a = rawM M ∧ DrawnM n m M) w g l) := by
  rw [hz, hy]; exact matrix_l hD hn hm
theorem drawn_szV {q : List Rat} (h : ∀ x ∈ q, Drawn 4 x) : ∀ x ∈ q, Sz x 1 := fun x hx => (h x hx).sz (by omega)
theorem le_sz {q : List Rat} {k n : Nat} (h : ∀ x ∈ q, Sz x k) (hk : k ≤ n) : ∀ x ∈ q, Sz x n := fun x hx => (h x hx).le hk
theorem le_szM {q : List (List Rat)} {k n : Nat} (h : ∀ r ∈ q, ∀ x ∈ r, Sz x k) (hk : k ≤ n) : ∀ r ∈ q, ∀ x ∈ r, Sz x n := fun r hr x hx => (h r hr x hx).le hk
theorem one_sz {q : List (List Rat)} (h : ∀ r ∈ q, ∀ x ∈ r, Sz x 1) : ∀ r ∈ q, ∀ x ∈ r, Sz x 1024 := le_szM h (by omega)
theorem mulQ_lenE {b c : List (List Rat)} {n p : Nat} (h : b.length = n) : (mulQ b c p).length = n := by rw [mulQ_len, h]
theorem mulQ_d {b c : List (List Rat)} {m p : Nat} (hb : ∀ r ∈ b, r.length = m) (hc : c.length = m) (hm : m ≤ 4) (hcr : ∀ r ∈ c, r.length = p) (sb : ∀ r ∈ b, ∀ x ∈ r, Sz x 1) (sc : ∀ r ∈ c, ∀ x ∈ r, Sz x 1) : ∀ r ∈ mulQ b c p, ∀ q ∈ r, Sz q 1024 :=
  mulQ_little hb hc (by omega) hcr sb sc (by omega)
theorem vMul_d {w : World} {v vn : Value} {b c : List (List Rat)} {n m p : Nat} (hv : IsM w (Old w) v (rawM b)) (hn : IsM w (Old w) vn (rawM c)) (hB : Bru w) (hbl : b.length = n) (hbr : ∀ r ∈ b, r.length = m) (hcl : c.length = m) (hcr : ∀ r ∈ c, r.length = p) (sb : ∀ r ∈ b, ∀ x ∈ r, Sz x 1) (sc : ∀ r ∈ c, ∀ x ∈ r, Sz x 1)
    (hn1 : 1 ≤ n) (hn4 : n ≤ 4) (hm1 : 1 ≤ m) (hm4 : m ≤ 4) (hp1 : 1 ≤ p) (hp4 : p ≤ 4) : Calls Tryz.prog 45 #[v, vn] w fun e w' => (∃ v', e = .returned (.tuple #[v', .int .i64 0]) ∧ IsM w' (Old w') v' (rawM (mulQ b c p))) ∧ Below w.heap.size w w' :=
  vMul_good hv hn hB hbl hbr hn1 (by omega) hm1 (by omega) hcl hcr (by omega) (chkM_raw (by omega) (by omega) hbr (one_sz sb)) (chkM_raw (by omega) (by omega) hcr (one_sz sc)) (one_sz sb) (one_sz sc) (mulQ_d hbr hcl hm4 hcr sb sc)
theorem vTurn_d {w : World} {v : Value} {b : List (List Rat)} {n m : Nat} (hv : IsM w (Old w) v (rawM b)) (hB : Bru w) (hbl : b.length = n) (hbr : ∀ r ∈ b, r.length = m) (hn1 : 1 ≤ n) (hn4 : n ≤ 4) (hm4 : m ≤ 4) (sb : ∀ r ∈ b, ∀ x ∈ r, Sz x 1024) :
    Calls Tryz.prog 46 #[v] w fun e w' => (∃ v', e = .returned (.tuple #[v', .int .i64 0]) ∧ IsM w' (Old w') v' (rawM (zdr b m))) ∧ Below w.heap.size w w' :=
  vTurn_good hv hB hbl hbr hn1 (by omega) (by omega) (chkM_raw (by omega) (by omega) hbr sb) sb
theorem scaleE_raw {a : List Rat} {y : Rat} (hl : a.length ≤ 40) (sa : ∀ q ∈ a, Sz q 1024) (sy : Sz y 1024) : scaleE (rawV a) (raw y) = 0 := by
  unfold scaleE
  have e1 : chkV (rawV a) = 0 := chkV_raw hl sa
  have e2 : chkQ (raw y) = 0 := chkQ_raw sy
  rw [if_neg (by rw [e1]; simp), e2]
theorem sz_addQ {a b : List Rat} {k : Nat} (ha : ∀ q ∈ a, Sz q k) (hb : ∀ q ∈ b, Sz q k) : ∀ q ∈ addQ a b, Sz q (k + k + 1) := by
  intro q hq
  obtain ⟨i, hi, rfl⟩ := List.getElem_of_mem hq
  unfold addQ at hi ⊢
  rw [List.getElem_zipWith]
  exact (ha _ (List.getElem_mem _)).add (hb _ (List.getElem_mem _))
theorem sz_scaleQ {a : List Rat} {y : Rat} {k l : Nat} (ha : ∀ q ∈ a, Sz q k) (hy : Sz y l) : ∀ q ∈ zeb a y, Sz q (k + l) := by
  intro q hq
  obtain ⟨x, hx, rfl⟩ := List.mem_map.1 hq
  exact (ha x hx).mul hy
theorem open206 {l : List Value} (h : l.length = 206) : ∃ fs : Nat → Value, l = [fs 0, fs 1, fs 2, fs 3, fs 4, fs 5, fs 6, fs 7, fs 8, fs 9, fs 10, fs 11, fs 12, fs 13, fs 14, fs 15, fs 16, fs 17, fs 18, fs 19, fs 20, fs 21, fs 22, fs 23, fs 24, fs 25, fs 26, fs 27, fs 28, fs 29, fs 30, fs 31, fs 32, fs 33, fs 34, fs 35, fs 36, fs 37, fs 38, fs 39, fs 40, fs 41, fs 42, fs 43, fs 44, fs 45, fs 46, fs 47, fs 48, fs 49, fs 50, fs 51, fs 52, fs 53, fs 54, fs 55, fs 56, fs 57, fs 58, fs 59, fs 60, fs 61, fs 62, fs 63, fs 64, fs 65, fs 66, fs 67, fs 68, fs 69, fs 70, fs 71, fs 72, fs 73, fs 74, fs 75, fs 76, fs 77, fs 78, fs 79, fs 80, fs 81, fs 82, fs 83, fs 84, fs 85, fs 86, fs 87, fs 88, fs 89, fs 90, fs 91, fs 92, fs 93, fs 94, fs 95, fs 96, fs 97, fs 98, fs 99, fs 100, fs 101, fs 102, fs 103, fs 104, fs 105, fs 106, fs 107, fs 108, fs 109, fs 110, fs 111, fs 112, fs 113, fs 114, fs 115, fs 116, fs 117, fs 118, fs 119, fs 120, fs 121, fs 122, fs 123, fs 124, fs 125, fs 126, fs 127, fs 128, fs 129, fs 130, fs 131, fs 132, fs 133, fs 134, fs 135, fs 136, fs 137, fs 138, fs 139, fs 140, fs 141, fs 142, fs 143, fs 144, fs 145, fs 146, fs 147, fs 148, fs 149, fs 150, fs 151, fs 152, fs 153, fs 154, fs 155, fs 156, fs 157, fs 158, fs 159, fs 160, fs 161, fs 162, fs 163, fs 164, fs 165, fs 166, fs 167, fs 168, fs 169, fs 170, fs 171, fs 172, fs 173, fs 174, fs 175, fs 176, fs 177, fs 178, fs 179, fs 180, fs 181, fs 182, fs 183, fs 184, fs 185, fs 186, fs 187, fs 188, fs 189, fs 190, fs 191, fs 192, fs 193, fs 194, fs 195, fs 196, fs 197, fs 198, fs 199, fs 200, fs 201, fs 202, fs 203, fs 204, fs 205] := by
  refine ⟨fun i => l.getD i undef, ?_⟩
  have e : l = (List.range 206).map (fun i => l.getD i undef) := by
    apply List.ext_getElem
    · simp [h]
    · intro i h1 h2
      simp [List.getD_eq_getElem?_getD, List.getElem?_eq_getElem h1]
  exact e.trans rfl
def Li13 (pq tq x : Rat) (i : Nat) (v : Value) (w : World) : Prop :=
  match i with
  | 0 => v = .int .i64 0
  | 1 => v = .bool false
  | 2 => v = .bool false
  | 3 => false = false → v = .int .i64 0
  | 4 => false = false → v = .bool false
  | 5 => v = .bool false
  | 6 => v = .bool false
  | 7 => false = false → v = .int .i64 0
  | 8 => false = false → v = .bool false
  | 9 => v = .bool false
  | 10 => v = .bool false
  | 11 => false = false → v = .int .i64 0
  | 12 => false = false → v = .bool false
  | 13 => v = .bool false
  | 14 => v = .bool false
  | 15 => false = false → IsR w (Old w) v (raw (pq + tq))
  | 16 => false = false → IsR w (Old w) v (raw (pq))
  | 17 => false = false → IsR w (Old w) v (raw (tq))
  | 18 => false = false → IsQ w (Old w) v (pq + tq)
  | 19 => false = false → v = .bool true
  | 20 => false = false → v = .bool false
  | 21 => v = .bool false
  | 22 => v = .bool false
  | 23 => false = false → IsR w (Old w) v (raw (pq * x))
  | 24 => false = false → IsR w (Old w) v (raw (pq))
  | 25 => false = false → IsQ w (Old w) v (x)
  | 26 => false = false → IsQ w (Old w) v (pq * x)
  | 27 => false = false → v = .bool true
  | 28 => false = false → v = .bool false
  | 29 => v = .bool false
  | _ => True
theorem li13_stb (pq tq x : Rat) : ∀ (i : Nat) (v : Value) (w w' : World), Li13 pq tq x i v w → Below w.heap.size w w' → Li13 pq tq x i v w' := fun i v w w' h hb => match i, h with
  | 0, h => h
  | 1, h => h
  | 2, h => h
  | 3, h => h
  | 4, h => h
  | 5, h => h
  | 6, h => h
  | 7, h => h
  | 8, h => h
  | 9, h => h
  | 10, h => h
  | 11, h => h
  | 12, h => h
  | 13, h => h
  | 14, h => h
  | 15, h => fun hc => IsR.stb.next (h hc) hb
  | 16, h => fun hc => IsR.stb.next (h hc) hb
  | 17, h => fun hc => IsR.stb.next (h hc) hb
  | 18, h => fun hc => IsQ.stb.next (h hc) hb
  | 19, h => h
  | 20, h => h
  | 21, h => h
  | 22, h => h
  | 23, h => fun hc => IsR.stb.next (h hc) hb
  | 24, h => fun hc => IsR.stb.next (h hc) hb
  | 25, h => fun hc => IsQ.stb.next (h hc) hb
  | 26, h => fun hc => IsQ.stb.next (h hc) hb
  | 27, h => h
  | 28, h => h
  | 29, h => h
  | _ + 30, _ => trivial
set_option maxRecDepth 100000 in
set_option maxHeartbeats 8000000 in
theorem law_vlin {w : World} {vl : Value} {l : List Int} {n m : Int} (hl : IsIL w (Old w) vl l) (hn : In64 n) (hm : In64 m) (hB : Bru w) :
    Calls Tryz.prog 7 #[vl, .int .i64 n, .int .i64 m] w fun e w' => e = .returned (.bool true) ∧ Below w.heap.size w w' := by
  have HL := Lib.hid hl
  have HB := Lib.hid hB
  obtain ⟨A, c, rfl, _, _, _, _⟩ := hl
  obtain ⟨w0, hw0, hb0, rD, Hz⟩ := zbq w #[.slice A l.length c, .int .i64 0] 66
  have D : Hid (IsD w0 w.heap.size l) := ⟨A, c, 0, rD, IsIL.stb.to HL.out (zfg hb0 fun b h => h), Nat.zero_le _⟩
  have BB := Lib.hid hb0
  have HG : Hid (w.heap.size < w.heap.size + 1) := Nat.lt_succ_self _
  obtain ⟨xi, hx⟩ : ∃ xi : Int, n % 4 = xi := ⟨_, rfl⟩
  obtain ⟨yi, hy⟩ : ∃ yi : Int, m % 4 = yi := ⟨_, rfl⟩
  obtain ⟨N, hN⟩ : ∃ N : Nat, 1 + xi = (N : Int) := ⟨(1 + xi).toNat, by omega⟩
  obtain ⟨MM, hM⟩ : ∃ N : Nat, 1 + yi = (N : Int) := ⟨(1 + yi).toNat, by omega⟩
  have hN1 : 1 ≤ N := by omega
  have hN4 : N ≤ 4 := by omega
  have hM1 : 1 ≤ MM := by omega
  have hM4 : MM ≤ 4 := by omega
  have hwN : IntKind.i64.wrap (N : Int) = (N : Int) := IntWalk.i64_in _ (by omega)
  have hwM : IntKind.i64.wrap (MM : Int) = (MM : Int) := IntWalk.i64_in _ (by omega)
  have hx0 : 0 ≤ xi := by omega
  have hx1 : xi ≤ 3 := by omega
  have hy0 : 0 ≤ yi := by omega
  have hy1 : yi ≤ 3 := by omega
  have Hx := Lib.hid hx
  have Hy := Lib.hid hy
  have Hn := Lib.hid hn
  have Hm := Lib.hid hm
  clear hb0 rD hB hx hy hn hm
  go_enter Tryz.func7, Tryz.ntmps7
  go_wp2_with fail
  clear hw0
  refine (mod_n _ n 4 Hn.out.1 Hn.out.2 (by omega) (by omega)).mono ?_
  rw [Hx.out]
  rintro e w1 ⟨rfl, rfl⟩
  go_wp2_with fail
  refine (mod_n _ m 4 Hm.out.1 Hm.out.2 (by omega) (by omega)).mono ?_
  rw [Hy.out]
  rintro e w1 ⟨rfl, rfl⟩
  go_wp2_with fail
  clear hN hM hwN hwM hx0 hx1 hy0 hy1 Hx Hy Hn Hm HL
  refine (vectorOf_i D.out rfl (n := N) (by omega)).mono ?_
  rintro e w1 ⟨⟨vU, z, rfl, h, u, rfl, hl, hs⟩, hD, hG⟩
  replace BB := Lib.hid (BB.out.grown hG BB.out.size (fun k hk => by cases hk; exact Nat.le_refl _))
  have U := Lib.hid (IsV.stb.le h (m := w.heap.size + 1) (by have h1 := (IsD.lt D.out); omega))
  replace D := Lib.hid hD
  have HLu := Lib.hid hl
  have HSu := Lib.hid (drawn_szV hs)
  clear hl hs
  clear h hD hG
  go_wp2_with fail
  refine (vectorOf_i D.out rfl (n := N) (by omega)).mono ?_
  rintro e w2 ⟨⟨vV, z, rfl, h, v, rfl, hl, hs⟩, hD, hG⟩
  replace BB := Lib.hid (BB.out.grown hG BB.out.size (fun k hk => by cases hk; exact Nat.le_refl _))
  replace U := Lib.hid (IsV.stb.drawn U.out hG HG.out)
  have V := Lib.hid (IsV.stb.le h (m := w.heap.size + 1) (by have h1 := (IsD.lt D.out); omega))
  replace D := Lib.hid hD
  have HLv := Lib.hid hl
  have HSv := Lib.hid (drawn_szV hs)
  clear hl hs
  clear h hD hG
  go_wp2_with fail
  refine (vectorOf_i D.out rfl (n := N) (by omega)).mono ?_
  rintro e w3 ⟨⟨vW, z, rfl, h, y, rfl, hl, hs⟩, hD, hG⟩
  replace BB := Lib.hid (BB.out.grown hG BB.out.size (fun k hk => by cases hk; exact Nat.le_refl _))
  replace U := Lib.hid (IsV.stb.drawn U.out hG HG.out)
  replace V := Lib.hid (IsV.stb.drawn V.out hG HG.out)
  have W := Lib.hid (IsV.stb.le h (m := w.heap.size + 1) (by have h1 := (IsD.lt D.out); omega))
  replace D := Lib.hid hD
  have HLy := Lib.hid hl
  have HSy := Lib.hid (drawn_szV hs)
  clear hl hs
  clear h hD hG
  go_wp2_with fail
  refine (rational_q D.out (.inr rfl)).mono ?_
  rintro e w4 ⟨⟨vX, x, rfl, h, hs⟩, hD, hG⟩
  replace BB := Lib.hid (BB.out.grown hG BB.out.size (fun k hk => by cases hk; exact Nat.le_refl _))
  replace U := Lib.hid (IsV.stb.drawn U.out hG HG.out)
  replace V := Lib.hid (IsV.stb.drawn V.out hG HG.out)
  replace W := Lib.hid (IsV.stb.drawn W.out hG HG.out)
  have X := Lib.hid (IsQ.stb.le h (m := w.heap.size + 1) (by have h1 := (IsD.lt D.out); omega))
  replace D := Lib.hid hD
  have HSx := Lib.hid (Drawn.sz hs (by decide))
  clear hs
  clear h hD hG
  obtain ⟨sx, Px, kx, Ox, lx, rfl, hsx, _, _⟩ := zal X.out
  replace U := Lib.hid (IsV.stb.old U.out)
  replace V := Lib.hid (IsV.stb.old V.out)
  replace W := Lib.hid (IsV.stb.old W.out)
  replace X := Lib.hid (IsQ.stb.old X.out)
  obtain ⟨w5, hxw5, hb, r, _⟩ := zbq w4 #[.bool sx, .slice Px (lim x.num.natAbs).length kx, .slice Ox (lim x.den).length lx] 31
  replace BB := Lib.hid (zaa BB.out hb)
  replace D := Lib.hid (D.out.next hb (IsD.lt D.out))
  replace U := Lib.hid (IsV.stb.next U.out hb)
  replace V := Lib.hid (IsV.stb.next V.out hb)
  replace W := Lib.hid (IsV.stb.next W.out hb)
  replace X := Lib.hid (IsQ.stb.next X.out hb)
  have RX := Lib.hid r
  clear r hb
  obtain ⟨rx0_5, rx1_5, rx2_5⟩ := zac RX.out
  go_wp2_with fail
  clear hxw5
  have HSuy := Lib.hid (sz_addQ HSu.out HSy.out)
  have HSux := Lib.hid (sz_scaleQ HSu.out HSx.out)
  obtain ⟨pq, hpq⟩ : ∃ r, r = dotQ u v := ⟨_, rfl⟩
  obtain ⟨tq, htq⟩ : ∃ r, r = dotQ y v := ⟨_, rfl⟩
  have HPQ := Lib.hid hpq
  have HTQ := Lib.hid htq
  have SPQ : Hid (Sz pq 100) := by rw [Hid, hpq]; exact (sumP_sz (n := 1) fun p hp => ⟨HSu.out _ (List.of_mem_zip hp).1, HSv.out _ (List.of_mem_zip hp).2⟩).le (by rw [List.length_zip, HLu.out]; omega)
  have STQ : Hid (Sz tq 100) := by rw [Hid, htq]; exact (sumP_sz (n := 1) fun p hp => ⟨HSy.out _ (List.of_mem_zip hp).1, HSv.out _ (List.of_mem_zip hp).2⟩).le (by rw [List.length_zip, HLy.out]; omega)
  clear hpq htq
  refine (vDot_q (d := pq) U.out V.out (Bru.next HB.out BB.out) (by rw [HLu.out]; omega) (by rw [HLu.out, HLv.out]) (le_sz HSu.out (by omega)) (le_sz HSv.out (by omega)) HPQ.out (SPQ.out.le (by omega))).mono ?_
  rintro e w6 ⟨⟨vP1, rfl, h⟩, hb⟩
  replace BB := Lib.hid (zaa BB.out hb)
  replace D := Lib.hid (D.out.next hb (IsD.lt D.out))
  replace U := Lib.hid (IsV.stb.next U.out hb)
  replace V := Lib.hid (IsV.stb.next V.out hb)
  replace W := Lib.hid (IsV.stb.next W.out hb)
  replace X := Lib.hid (IsQ.stb.next X.out hb)
  replace RX := Lib.hid (RX.out.next hb)
  clear rx0_5 rx1_5 rx2_5
  obtain ⟨rx0_6, rx1_6, rx2_6⟩ := zac RX.out
  have P1 := Lib.hid h
  obtain ⟨PP1, kP1, QP1, dP1, rfl, _, _⟩ := h
  clear hb
  obtain ⟨w7, hxw7, hb, r, _⟩ := zbq w6 #[.bool (raw (pq)).neg, .slice PP1 (raw (pq)).num.length kP1, .slice QP1 (raw (pq)).den.length dP1] 31
  replace BB := Lib.hid (zaa BB.out hb)
  replace D := Lib.hid (D.out.next hb (IsD.lt D.out))
  replace U := Lib.hid (IsV.stb.next U.out hb)
  replace V := Lib.hid (IsV.stb.next V.out hb)
  replace W := Lib.hid (IsV.stb.next W.out hb)
  replace X := Lib.hid (IsQ.stb.next X.out hb)
  replace RX := Lib.hid (RX.out.next hb)
  replace P1 := Lib.hid (IsR.stb.next P1.out hb)
  clear rx0_6 rx1_6 rx2_6
  obtain ⟨rx0_7, rx1_7, rx2_7⟩ := zac RX.out
  have R1 := Lib.hid r
  clear r hb
  clear rx0_7 rx1_7 rx2_7
  obtain ⟨rx0_7, rx1_7, rx2_7⟩ := zac RX.out
  obtain ⟨r10_7, r11_7, r12_7⟩ := zac R1.out
  go_wp2_with fail
  clear hxw7
  refine (vDot_q (d := pq) V.out U.out (Bru.next HB.out BB.out) (by rw [HLv.out]; omega) (by rw [HLv.out, HLu.out]) (le_sz HSv.out (by omega)) (le_sz HSu.out (by omega)) (HPQ.out.trans (dotQ_comm _ _)) (SPQ.out.le (by omega))).mono ?_
  rintro e w8 ⟨⟨vP2, rfl, h⟩, hb⟩
  replace BB := Lib.hid (zaa BB.out hb)
  replace D := Lib.hid (D.out.next hb (IsD.lt D.out))
  replace U := Lib.hid (IsV.stb.next U.out hb)
  replace V := Lib.hid (IsV.stb.next V.out hb)
  replace W := Lib.hid (IsV.stb.next W.out hb)
  replace X := Lib.hid (IsQ.stb.next X.out hb)
  replace RX := Lib.hid (RX.out.next hb)
  replace P1 := Lib.hid (IsR.stb.next P1.out hb)
  replace R1 := Lib.hid (R1.out.next hb)
  clear rx0_7 rx1_7 rx2_7
  obtain ⟨rx0_8, rx1_8, rx2_8⟩ := zac RX.out
  clear r10_7 r11_7 r12_7
  obtain ⟨r10_8, r11_8, r12_8⟩ := zac R1.out
  have P2 := Lib.hid h
  obtain ⟨PP2, kP2, QP2, dP2, rfl, _, _⟩ := h
  clear hb
  obtain ⟨w9, hxw9, hb, r, _⟩ := zbq w8 #[.bool (raw (pq)).neg, .slice PP2 (raw (pq)).num.length kP2, .slice QP2 (raw (pq)).den.length dP2] 31
  replace BB := Lib.hid (zaa BB.out hb)
  replace D := Lib.hid (D.out.next hb (IsD.lt D.out))
  replace U := Lib.hid (IsV.stb.next U.out hb)
  replace V := Lib.hid (IsV.stb.next V.out hb)
  replace W := Lib.hid (IsV.stb.next W.out hb)
  replace X := Lib.hid (IsQ.stb.next X.out hb)
  replace RX := Lib.hid (RX.out.next hb)
  replace P1 := Lib.hid (IsR.stb.next P1.out hb)
  replace R1 := Lib.hid (R1.out.next hb)
  replace P2 := Lib.hid (IsR.stb.next P2.out hb)
  clear rx0_8 rx1_8 rx2_8
  obtain ⟨rx0_9, rx1_9, rx2_9⟩ := zac RX.out
  clear r10_8 r11_8 r12_8
  obtain ⟨r10_9, r11_9, r12_9⟩ := zac R1.out
  have R2 := Lib.hid r
  clear r hb
  clear rx0_9 rx1_9 rx2_9
  obtain ⟨rx0_9, rx1_9, rx2_9⟩ := zac RX.out
  clear r10_9 r11_9 r12_9
  obtain ⟨r10_9, r11_9, r12_9⟩ := zac R1.out
  obtain ⟨r20_9, r21_9, r22_9⟩ := zac R2.out
  go_wp2_with fail
  clear hxw9
  refine (vAdd_good (M := N) U.out W.out (Bru.next HB.out BB.out) (bothE_raw (by rw [HLu.out]; omega) (by rw [HLu.out, HLy.out]) (le_sz HSu.out (by omega)) (le_sz HSy.out (by omega))) HLu.out HLy.out (by omega) (le_sz HSu.out (by omega)) (le_sz HSy.out (by omega)) (fun q hq => (HSuy.out q hq).le (by omega))).mono ?_
  rintro e w10 ⟨⟨vS, rfl, h⟩, hb⟩
  replace BB := Lib.hid (zaa BB.out hb)
  replace D := Lib.hid (D.out.next hb (IsD.lt D.out))
  replace U := Lib.hid (IsV.stb.next U.out hb)
  replace V := Lib.hid (IsV.stb.next V.out hb)
  replace W := Lib.hid (IsV.stb.next W.out hb)
  replace X := Lib.hid (IsQ.stb.next X.out hb)
  replace RX := Lib.hid (RX.out.next hb)
  replace P1 := Lib.hid (IsR.stb.next P1.out hb)
  replace R1 := Lib.hid (R1.out.next hb)
  replace P2 := Lib.hid (IsR.stb.next P2.out hb)
  replace R2 := Lib.hid (R2.out.next hb)
  clear rx0_9 rx1_9 rx2_9
  obtain ⟨rx0_10, rx1_10, rx2_10⟩ := zac RX.out
  clear r10_9 r11_9 r12_9
  obtain ⟨r10_10, r11_10, r12_10⟩ := zac R1.out
  clear r20_9 r21_9 r22_9
  obtain ⟨r20_10, r21_10, r22_10⟩ := zac R2.out
  have SM := Lib.hid h
  clear h hb
  go_wp2_with fail
  refine (same_r P1.out P2.out).mono ?_
  rw [decide_eq_true rfl]
  rintro e w11 ⟨rfl, hb⟩
  replace BB := Lib.hid (zaa BB.out hb)
  replace D := Lib.hid (D.out.next hb (IsD.lt D.out))
  replace U := Lib.hid (IsV.stb.next U.out hb)
  replace V := Lib.hid (IsV.stb.next V.out hb)
  replace W := Lib.hid (IsV.stb.next W.out hb)
  replace X := Lib.hid (IsQ.stb.next X.out hb)
  replace RX := Lib.hid (RX.out.next hb)
  replace P1 := Lib.hid (IsR.stb.next P1.out hb)
  replace R1 := Lib.hid (R1.out.next hb)
  replace P2 := Lib.hid (IsR.stb.next P2.out hb)
  replace R2 := Lib.hid (R2.out.next hb)
  replace SM := Lib.hid (IsV.stb.next SM.out hb)
  clear rx0_10 rx1_10 rx2_10
  obtain ⟨rx0_11, rx1_11, rx2_11⟩ := zac RX.out
  clear r10_10 r11_10 r12_10
  obtain ⟨r10_11, r11_11, r12_11⟩ := zac R1.out
  clear r20_10 r21_10 r22_10
  obtain ⟨r20_11, r21_11, r22_11⟩ := zac R2.out
  clear hb
  clear r20_11 r21_11 r22_11
  clear R2 P2
  go_wp2_with fail
  refine (vDot_q (d := pq + tq) SM.out V.out (Bru.next HB.out BB.out) (by rw [addQ_len HLu.out HLy.out]; omega) (by rw [addQ_len HLu.out HLy.out, HLv.out]) (le_sz HSuy.out (by omega)) (le_sz HSv.out (by omega)) (by rw [HPQ.out, HTQ.out]; exact (dotQ_add u y v (by rw [HLu.out, HLy.out])).symm) ((SPQ.out.add STQ.out).le (by omega))).mono ?_
  rintro e w12 ⟨⟨vP3, rfl, h⟩, hb⟩
  replace BB := Lib.hid (zaa BB.out hb)
  replace D := Lib.hid (D.out.next hb (IsD.lt D.out))
  replace U := Lib.hid (IsV.stb.next U.out hb)
  replace V := Lib.hid (IsV.stb.next V.out hb)
  replace W := Lib.hid (IsV.stb.next W.out hb)
  replace X := Lib.hid (IsQ.stb.next X.out hb)
  replace RX := Lib.hid (RX.out.next hb)
  replace P1 := Lib.hid (IsR.stb.next P1.out hb)
  replace R1 := Lib.hid (R1.out.next hb)
  replace SM := Lib.hid (IsV.stb.next SM.out hb)
  clear rx0_11 rx1_11 rx2_11
  obtain ⟨rx0_12, rx1_12, rx2_12⟩ := zac RX.out
  clear r10_11 r11_11 r12_11
  obtain ⟨r10_12, r11_12, r12_12⟩ := zac R1.out
  have P3 := Lib.hid h
  obtain ⟨PP3, kP3, QP3, dP3, rfl, _, _⟩ := h
  clear hb
  obtain ⟨w13, hxw13, hb, r, _⟩ := zbq w12 #[.bool (raw (pq + tq)).neg, .slice PP3 (raw (pq + tq)).num.length kP3, .slice QP3 (raw (pq + tq)).den.length dP3] 31
  replace BB := Lib.hid (zaa BB.out hb)
  replace D := Lib.hid (D.out.next hb (IsD.lt D.out))
  replace U := Lib.hid (IsV.stb.next U.out hb)
  replace V := Lib.hid (IsV.stb.next V.out hb)
  replace W := Lib.hid (IsV.stb.next W.out hb)
  replace X := Lib.hid (IsQ.stb.next X.out hb)
  replace RX := Lib.hid (RX.out.next hb)
  replace P1 := Lib.hid (IsR.stb.next P1.out hb)
  replace R1 := Lib.hid (R1.out.next hb)
  replace SM := Lib.hid (IsV.stb.next SM.out hb)
  replace P3 := Lib.hid (IsR.stb.next P3.out hb)
  clear rx0_12 rx1_12 rx2_12
  obtain ⟨rx0_13, rx1_13, rx2_13⟩ := zac RX.out
  clear r10_12 r11_12 r12_12
  obtain ⟨r10_13, r11_13, r12_13⟩ := zac R1.out
  have R3 := Lib.hid r
  clear r hb
  clear rx0_13 rx1_13 rx2_13
  obtain ⟨rx0_13, rx1_13, rx2_13⟩ := zac RX.out
  clear r10_13 r11_13 r12_13
  obtain ⟨r10_13, r11_13, r12_13⟩ := zac R1.out
  obtain ⟨r30_13, r31_13, r32_13⟩ := zac R3.out
  go_wp2_with fail
  clear hxw13
  clear SM
  refine (vDot_q (d := tq) W.out V.out (Bru.next HB.out BB.out) (by rw [HLy.out]; omega) (by rw [HLy.out, HLv.out]) (le_sz HSy.out (by omega)) (le_sz HSv.out (by omega)) HTQ.out (STQ.out.le (by omega))).mono ?_
  rintro e w14 ⟨⟨vP4, rfl, h⟩, hb⟩
  replace BB := Lib.hid (zaa BB.out hb)
  replace D := Lib.hid (D.out.next hb (IsD.lt D.out))
  replace U := Lib.hid (IsV.stb.next U.out hb)
  replace V := Lib.hid (IsV.stb.next V.out hb)
  replace W := Lib.hid (IsV.stb.next W.out hb)
  replace X := Lib.hid (IsQ.stb.next X.out hb)
  replace RX := Lib.hid (RX.out.next hb)
  replace P1 := Lib.hid (IsR.stb.next P1.out hb)
  replace R1 := Lib.hid (R1.out.next hb)
  replace P3 := Lib.hid (IsR.stb.next P3.out hb)
  replace R3 := Lib.hid (R3.out.next hb)
  clear rx0_13 rx1_13 rx2_13
  obtain ⟨rx0_14, rx1_14, rx2_14⟩ := zac RX.out
  clear r10_13 r11_13 r12_13
  obtain ⟨r10_14, r11_14, r12_14⟩ := zac R1.out
  clear r30_13 r31_13 r32_13
  obtain ⟨r30_14, r31_14, r32_14⟩ := zac R3.out
  have P4 := Lib.hid h
  obtain ⟨PP4, kP4, QP4, dP4, rfl, _, _⟩ := h
  clear hb
  obtain ⟨w15, hxw15, hb, r, _⟩ := zbq w14 #[.bool (raw (tq)).neg, .slice PP4 (raw (tq)).num.length kP4, .slice QP4 (raw (tq)).den.length dP4] 31
  replace BB := Lib.hid (zaa BB.out hb)
  replace D := Lib.hid (D.out.next hb (IsD.lt D.out))
  replace U := Lib.hid (IsV.stb.next U.out hb)
  replace V := Lib.hid (IsV.stb.next V.out hb)
  replace W := Lib.hid (IsV.stb.next W.out hb)
  replace X := Lib.hid (IsQ.stb.next X.out hb)
  replace RX := Lib.hid (RX.out.next hb)
  replace P1 := Lib.hid (IsR.stb.next P1.out hb)
  replace R1 := Lib.hid (R1.out.next hb)
  replace P3 := Lib.hid (IsR.stb.next P3.out hb)
  replace R3 := Lib.hid (R3.out.next hb)
  replace P4 := Lib.hid (IsR.stb.next P4.out hb)
  clear rx0_14 rx1_14 rx2_14
  obtain ⟨rx0_15, rx1_15, rx2_15⟩ := zac RX.out
  clear r10_14 r11_14 r12_14
  obtain ⟨r10_15, r11_15, r12_15⟩ := zac R1.out
  clear r30_14 r31_14 r32_14
  obtain ⟨r30_15, r31_15, r32_15⟩ := zac R3.out
  have R4 := Lib.hid r
  clear r hb
  clear rx0_15 rx1_15 rx2_15
  obtain ⟨rx0_15, rx1_15, rx2_15⟩ := zac RX.out
  clear r10_15 r11_15 r12_15
  obtain ⟨r10_15, r11_15, r12_15⟩ := zac R1.out
  clear r30_15 r31_15 r32_15
  obtain ⟨r30_15, r31_15, r32_15⟩ := zac R3.out
  obtain ⟨r40_15, r41_15, r42_15⟩ := zac R4.out
  go_wp2_with fail
  clear hxw15
  refine (vScale_good (M := N) U.out X.out (Bru.next HB.out BB.out) (scaleE_raw (by rw [HLu.out]; omega) (le_sz HSu.out (by omega)) (HSx.out.le (by omega))) HLu.out (by omega) (le_sz HSu.out (by omega)) (HSx.out.le (by omega)) (fun q hq => (HSux.out q hq).le (by omega))).mono ?_
  rintro e w16 ⟨⟨vT, rfl, h⟩, hb⟩
  replace BB := Lib.hid (zaa BB.out hb)
  replace D := Lib.hid (D.out.next hb (IsD.lt D.out))
  replace U := Lib.hid (IsV.stb.next U.out hb)
  replace V := Lib.hid (IsV.stb.next V.out hb)
  replace W := Lib.hid (IsV.stb.next W.out hb)
  replace X := Lib.hid (IsQ.stb.next X.out hb)
  replace RX := Lib.hid (RX.out.next hb)
  replace P1 := Lib.hid (IsR.stb.next P1.out hb)
  replace R1 := Lib.hid (R1.out.next hb)
  replace P3 := Lib.hid (IsR.stb.next P3.out hb)
  replace R3 := Lib.hid (R3.out.next hb)
  replace P4 := Lib.hid (IsR.stb.next P4.out hb)
  replace R4 := Lib.hid (R4.out.next hb)
  clear rx0_15 rx1_15 rx2_15
  obtain ⟨rx0_16, rx1_16, rx2_16⟩ := zac RX.out
  clear r10_15 r11_15 r12_15
  obtain ⟨r10_16, r11_16, r12_16⟩ := zac R1.out
  clear r30_15 r31_15 r32_15
  obtain ⟨r30_16, r31_16, r32_16⟩ := zac R3.out
  clear r40_15 r41_15 r42_15
  obtain ⟨r40_16, r41_16, r42_16⟩ := zac R4.out
  have TM := Lib.hid h
  clear h hb
  go_wp2_with fail
  clear U W
  refine (vDot_q (d := pq * x) TM.out V.out (Bru.next HB.out BB.out) (by rw [scaleQ_len, HLu.out]; omega) (by rw [scaleQ_len, HLu.out, HLv.out]) (le_sz HSux.out (by omega)) (le_sz HSv.out (by omega)) (by rw [HPQ.out]; exact (dotQ_scale x u v).symm) ((SPQ.out.mul HSx.out).le (by omega))).mono ?_
  rintro e w17 ⟨⟨vP5, rfl, h⟩, hb⟩
  replace BB := Lib.hid (zaa BB.out hb)
  replace D := Lib.hid (D.out.next hb (IsD.lt D.out))
  replace V := Lib.hid (IsV.stb.next V.out hb)
  replace X := Lib.hid (IsQ.stb.next X.out hb)
  replace RX := Lib.hid (RX.out.next hb)
  replace P1 := Lib.hid (IsR.stb.next P1.out hb)
  replace R1 := Lib.hid (R1.out.next hb)
  replace P3 := Lib.hid (IsR.stb.next P3.out hb)
  replace R3 := Lib.hid (R3.out.next hb)
  replace P4 := Lib.hid (IsR.stb.next P4.out hb)
  replace R4 := Lib.hid (R4.out.next hb)
  replace TM := Lib.hid (IsV.stb.next TM.out hb)
  clear rx0_16 rx1_16 rx2_16
  obtain ⟨rx0_17, rx1_17, rx2_17⟩ := zac RX.out
  clear r10_16 r11_16 r12_16
  obtain ⟨r10_17, r11_17, r12_17⟩ := zac R1.out
  clear r30_16 r31_16 r32_16
  obtain ⟨r30_17, r31_17, r32_17⟩ := zac R3.out
  clear r40_16 r41_16 r42_16
  obtain ⟨r40_17, r41_17, r42_17⟩ := zac R4.out
  have P5 := Lib.hid h
  obtain ⟨PP5, kP5, QP5, dP5, rfl, _, _⟩ := h
  clear hb
  obtain ⟨w18, hxw18, hb, r, _⟩ := zbq w17 #[.bool (raw (pq * x)).neg, .slice PP5 (raw (pq * x)).num.length kP5, .slice QP5 (raw (pq * x)).den.length dP5] 31
  replace BB := Lib.hid (zaa BB.out hb)
  replace D := Lib.hid (D.out.next hb (IsD.lt D.out))
  replace V := Lib.hid (IsV.stb.next V.out hb)
  replace X := Lib.hid (IsQ.stb.next X.out hb)
  replace RX := Lib.hid (RX.out.next hb)
  replace P1 := Lib.hid (IsR.stb.next P1.out hb)
  replace R1 := Lib.hid (R1.out.next hb)
  replace P3 := Lib.hid (IsR.stb.next P3.out hb)
  replace R3 := Lib.hid (R3.out.next hb)
  replace P4 := Lib.hid (IsR.stb.next P4.out hb)
  replace R4 := Lib.hid (R4.out.next hb)
  replace TM := Lib.hid (IsV.stb.next TM.out hb)
  replace P5 := Lib.hid (IsR.stb.next P5.out hb)
  clear rx0_17 rx1_17 rx2_17
  obtain ⟨rx0_18, rx1_18, rx2_18⟩ := zac RX.out
  clear r10_17 r11_17 r12_17
  obtain ⟨r10_18, r11_18, r12_18⟩ := zac R1.out
  clear r30_17 r31_17 r32_17
  obtain ⟨r30_18, r31_18, r32_18⟩ := zac R3.out
  clear r40_17 r41_17 r42_17
  obtain ⟨r40_18, r41_18, r42_18⟩ := zac R4.out
  have R5 := Lib.hid r
  clear r hb
  clear rx0_18 rx1_18 rx2_18
  obtain ⟨rx0_18, rx1_18, rx2_18⟩ := zac RX.out
  clear r10_18 r11_18 r12_18
  obtain ⟨r10_18, r11_18, r12_18⟩ := zac R1.out
  clear r30_18 r31_18 r32_18
  obtain ⟨r30_18, r31_18, r32_18⟩ := zac R3.out
  clear r40_18 r41_18 r42_18
  obtain ⟨r40_18, r41_18, r42_18⟩ := zac R4.out
  obtain ⟨r50_18, r51_18, r52_18⟩ := zac R5.out
  go_wp2_with fail
  clear hxw18
  clear TM V
  clear rx0_18 rx1_18 rx2_18 r10_18 r11_18 r12_18 r30_18 r31_18 r32_18 r40_18 r41_18 r42_18 r50_18 r51_18 r52_18
  refine zdp fun ops hops => ?_
  have oq0 := zaq (j := 0) hops rfl
  have oq1 := zaq (j := 1) hops rfl
  have oq2 := zaq (j := 2) hops rfl
  have oq3 := zaq (j := 3) hops rfl
  have oq4 := zaq (j := 4) hops rfl
  have oq5 := zaq (j := 5) hops rfl
  have oq6 := zaq (j := 6) hops rfl
  have oq7 := zaq (j := 7) hops rfl
  have oq8 := zaq (j := 8) hops rfl
  have oq9 := zaq (j := 9) hops rfl
  have oq10 := zaq (j := 10) hops rfl
  have oq11 := zaq (j := 11) hops rfl
  have oq12 := zaq (j := 12) hops rfl
  have oq13 := zaq (j := 13) hops rfl
  have oq14 := zaq (j := 14) hops rfl
  have oq15 := zaq (j := 15) hops rfl
  have oq16 := zaq (j := 16) hops rfl
  have oq17 := zaq (j := 17) hops rfl
  have oq18 := zaq (j := 18) hops rfl
  have oq19 := zaq (j := 19) hops rfl
  have oq20 := zaq (j := 20) hops rfl
  have oq21 := zaq (j := 21) hops rfl
  have oq22 := zaq (j := 22) hops rfl
  have oq23 := zaq (j := 23) hops rfl
  have oq24 := zaq (j := 24) hops rfl
  have oq25 := zaq (j := 25) hops rfl
  have oq26 := zaq (j := 26) hops rfl
  have oq27 := zaq (j := 27) hops rfl
  have oq28 := zaq (j := 28) hops rfl
  have oq29 := zaq (j := 29) hops rfl
  have fr := fun t h => slot_abs hops t h
  refine wp_region_grow (Li13 pq tq x) (by kernel_rfl) (li13_stb pq tq x) (by rw [hops]; kernel_rfl) ?step ?fin
  case step =>
    intro i o hi a W hsz hdf hbw hfree hdep
    obtain ⟨T, df⟩ := a
    replace hsz : T.size = 206 := hsz
    obtain rfl : df = [] := hdf
    match i, hi with
    | 0, hi =>
      obtain rfl := Option.some.inj (oq0.symm.trans hi)
      have e13 : T[13]? = some (.int .i64 0) := hfree 13 (fr 13 (by kernel_rfl))
      refine zae rfl ?_
      clear hdep hfree hsz hops fr oq0 oq1 oq2 oq3 oq4 oq5 oq6 oq7 oq8 oq9 oq10 oq11 oq12 oq13 oq14 oq15 oq16 oq17 oq18 oq19 oq20 oq21 oq22 oq23 oq24 oq25 oq26 oq27 oq28 oq29
      refine zak fun K hK => ?_
      go_simp
      exact hK (.int .i64 0) _ (Below.refl _ _) (rfl)
    | 1, hi =>
      obtain rfl := Option.some.inj (oq1.symm.trans hi)
      have e109 : T[109]? = some (.int .i64 0) := zai (by omega) (hdep 0 _ 109 (odt (by kernel_rfl)) oq0 rfl)
      refine zae rfl ?_
      clear hdep hfree hsz hops fr oq0 oq1 oq2 oq3 oq4 oq5 oq6 oq7 oq8 oq9 oq10 oq11 oq12 oq13 oq14 oq15 oq16 oq17 oq18 oq19 oq20 oq21 oq22 oq23 oq24 oq25 oq26 oq27 oq28 oq29
      refine zak fun K hK => ?_
      go_simp
      exact hK (.bool false) _ (Below.refl _ _) (rfl)
    | 2, hi =>
      obtain rfl := Option.some.inj (oq2.symm.trans hi)
      have e110 : T[110]? = some (.bool false) := zai (by omega) (hdep 1 _ 110 (odt (by kernel_rfl)) oq1 rfl)
      refine zae rfl ?_
      clear hdep hfree hsz hops fr oq0 oq1 oq2 oq3 oq4 oq5 oq6 oq7 oq8 oq9 oq10 oq11 oq12 oq13 oq14 oq15 oq16 oq17 oq18 oq19 oq20 oq21 oq22 oq23 oq24 oq25 oq26 oq27 oq28 oq29
      refine zak fun K hK => ?_
      go_simp
      exact hK (.bool false) _ (Below.refl _ _) (rfl)
    | 3, hi =>
      obtain rfl := Option.some.inj (oq3.symm.trans hi)
      have e15 : T[15]? = some (.int .i64 0) := hfree 15 (fr 15 (by kernel_rfl))
      refine zat (T := T) (j := 2) rfl oq2 rfl (hdep 2 _ 111 (odt (by kernel_rfl)) oq2 rfl) (by omega) (fun hC e111 => ?_) (fun hC h => by first | exact absurd hC (by decide) | (rw [hC] at h; cases h))
      clear hdep hfree hsz hops fr oq0 oq1 oq2 oq3 oq4 oq5 oq6 oq7 oq8 oq9 oq10 oq11 oq12 oq13 oq14 oq15 oq16 oq17 oq18 oq19 oq20 oq21 oq22 oq23 oq24 oq25 oq26 oq27 oq28 oq29
      refine zak fun K hK => ?_
      go_simp
      exact hK (.int .i64 0) _ (Below.refl _ _) (fun _ => rfl)
    | 4, hi =>
      obtain rfl := Option.some.inj (oq4.symm.trans hi)
      refine zat (T := T) (j := 2) rfl oq2 rfl (hdep 2 _ 111 (odt (by kernel_rfl)) oq2 rfl) (by omega) (fun hC e111 => ?_) (fun hC h => by first | exact absurd hC (by decide) | (rw [hC] at h; cases h))
      have e112 : T[112]? = some (.int .i64 0) := zai (by omega) (hdep 3 _ 112 (odt (by kernel_rfl)) oq3 rfl hC)
      clear hdep hfree hsz hops fr oq0 oq1 oq2 oq3 oq4 oq5 oq6 oq7 oq8 oq9 oq10 oq11 oq12 oq13 oq14 oq15 oq16 oq17 oq18 oq19 oq20 oq21 oq22 oq23 oq24 oq25 oq26 oq27 oq28 oq29
      refine zak fun K hK => ?_
      go_simp
      exact hK (.bool false) _ (Below.refl _ _) (fun _ => rfl)
    | 5, hi =>
      obtain rfl := Option.some.inj (oq5.symm.trans hi)
      have e111 : T[111]? = some (.bool false) := zai (by omega) (hdep 2 _ 111 (odt (by kernel_rfl)) oq2 rfl)
      have d113 : false = false → (T.getD 113 undef) = .bool false := hdep 4 _ 113 (odt (by kernel_rfl)) oq4 rfl
      refine zae rfl ?_
      obtain ⟨v113, e113, g113⟩ := zbh (T := T) (t := 113) (by omega)
      rw [g113] at d113
      clear g113
      have hC : false = false := rfl
      · have e := d113 hC
        subst e
        clear d113
        clear hdep hfree hsz hops fr oq0 oq1 oq2 oq3 oq4 oq5 oq6 oq7 oq8 oq9 oq10 oq11 oq12 oq13 oq14 oq15 oq16 oq17 oq18 oq19 oq20 oq21 oq22 oq23 oq24 oq25 oq26 oq27 oq28 oq29
        refine zak fun K hK => ?_
        go_simp
        exact hK (.bool false) _ (Below.refl _ _) rfl
    | 6, hi =>
      obtain rfl := Option.some.inj (oq6.symm.trans hi)
      have e114 : T[114]? = some (.bool false) := zai (by omega) (hdep 5 _ 114 (odt (by kernel_rfl)) oq5 rfl)
      refine zae rfl ?_
      clear hdep hfree hsz hops fr oq0 oq1 oq2 oq3 oq4 oq5 oq6 oq7 oq8 oq9 oq10 oq11 oq12 oq13 oq14 oq15 oq16 oq17 oq18 oq19 oq20 oq21 oq22 oq23 oq24 oq25 oq26 oq27 oq28 oq29
      refine zak fun K hK => ?_
      go_simp
      exact hK (.bool false) _ (Below.refl _ _) (rfl)
    | 7, hi =>
      obtain rfl := Option.some.inj (oq7.symm.trans hi)
      have e17 : T[17]? = some (.int .i64 0) := hfree 17 (fr 17 (by kernel_rfl))
      refine zat (T := T) (j := 6) rfl oq6 rfl (hdep 6 _ 115 (odt (by kernel_rfl)) oq6 rfl) (by omega) (fun hC e115 => ?_) (fun hC h => by first | exact absurd hC (by decide) | (rw [hC] at h; cases h))
      clear hdep hfree hsz hops fr oq0 oq1 oq2 oq3 oq4 oq5 oq6 oq7 oq8 oq9 oq10 oq11 oq12 oq13 oq14 oq15 oq16 oq17 oq18 oq19 oq20 oq21 oq22 oq23 oq24 oq25 oq26 oq27 oq28 oq29
      refine zak fun K hK => ?_
      go_simp
      exact hK (.int .i64 0) _ (Below.refl _ _) (fun _ => rfl)
    | 8, hi =>
      obtain rfl := Option.some.inj (oq8.symm.trans hi)
      refine zat (T := T) (j := 6) rfl oq6 rfl (hdep 6 _ 115 (odt (by kernel_rfl)) oq6 rfl) (by omega) (fun hC e115 => ?_) (fun hC h => by first | exact absurd hC (by decide) | (rw [hC] at h; cases h))
      have e116 : T[116]? = some (.int .i64 0) := zai (by omega) (hdep 7 _ 116 (odt (by kernel_rfl)) oq7 rfl hC)
      clear hdep hfree hsz hops fr oq0 oq1 oq2 oq3 oq4 oq5 oq6 oq7 oq8 oq9 oq10 oq11 oq12 oq13 oq14 oq15 oq16 oq17 oq18 oq19 oq20 oq21 oq22 oq23 oq24 oq25 oq26 oq27 oq28 oq29
      refine zak fun K hK => ?_
      go_simp
      exact hK (.bool false) _ (Below.refl _ _) (fun _ => rfl)
    | 9, hi =>
      obtain rfl := Option.some.inj (oq9.symm.trans hi)
      have e115 : T[115]? = some (.bool false) := zai (by omega) (hdep 6 _ 115 (odt (by kernel_rfl)) oq6 rfl)
      have d117 : false = false → (T.getD 117 undef) = .bool false := hdep 8 _ 117 (odt (by kernel_rfl)) oq8 rfl
      refine zae rfl ?_
      obtain ⟨v117, e117, g117⟩ := zbh (T := T) (t := 117) (by omega)
      rw [g117] at d117
      clear g117
      have hC : false = false := rfl
      · have e := d117 hC
        subst e
        clear d117
        clear hdep hfree hsz hops fr oq0 oq1 oq2 oq3 oq4 oq5 oq6 oq7 oq8 oq9 oq10 oq11 oq12 oq13 oq14 oq15 oq16 oq17 oq18 oq19 oq20 oq21 oq22 oq23 oq24 oq25 oq26 oq27 oq28 oq29
        refine zak fun K hK => ?_
        go_simp
        exact hK (.bool false) _ (Below.refl _ _) rfl
    | 10, hi =>
      obtain rfl := Option.some.inj (oq10.symm.trans hi)
      have e118 : T[118]? = some (.bool false) := zai (by omega) (hdep 9 _ 118 (odt (by kernel_rfl)) oq9 rfl)
      refine zae rfl ?_
      clear hdep hfree hsz hops fr oq0 oq1 oq2 oq3 oq4 oq5 oq6 oq7 oq8 oq9 oq10 oq11 oq12 oq13 oq14 oq15 oq16 oq17 oq18 oq19 oq20 oq21 oq22 oq23 oq24 oq25 oq26 oq27 oq28 oq29
      refine zak fun K hK => ?_
      go_simp
      exact hK (.bool false) _ (Below.refl _ _) (rfl)
    | 11, hi =>
      obtain rfl := Option.some.inj (oq11.symm.trans hi)
      have e22 : T[22]? = some (.int .i64 0) := hfree 22 (fr 22 (by kernel_rfl))
      refine zat (T := T) (j := 10) rfl oq10 rfl (hdep 10 _ 119 (odt (by kernel_rfl)) oq10 rfl) (by omega) (fun hC e119 => ?_) (fun hC h => by first | exact absurd hC (by decide) | (rw [hC] at h; cases h))
      clear hdep hfree hsz hops fr oq0 oq1 oq2 oq3 oq4 oq5 oq6 oq7 oq8 oq9 oq10 oq11 oq12 oq13 oq14 oq15 oq16 oq17 oq18 oq19 oq20 oq21 oq22 oq23 oq24 oq25 oq26 oq27 oq28 oq29
      refine zak fun K hK => ?_
      go_simp
      exact hK (.int .i64 0) _ (Below.refl _ _) (fun _ => rfl)
    | 12, hi =>
      obtain rfl := Option.some.inj (oq12.symm.trans hi)
      refine zat (T := T) (j := 10) rfl oq10 rfl (hdep 10 _ 119 (odt (by kernel_rfl)) oq10 rfl) (by omega) (fun hC e119 => ?_) (fun hC h => by first | exact absurd hC (by decide) | (rw [hC] at h; cases h))
      have e120 : T[120]? = some (.int .i64 0) := zai (by omega) (hdep 11 _ 120 (odt (by kernel_rfl)) oq11 rfl hC)
      clear hdep hfree hsz hops fr oq0 oq1 oq2 oq3 oq4 oq5 oq6 oq7 oq8 oq9 oq10 oq11 oq12 oq13 oq14 oq15 oq16 oq17 oq18 oq19 oq20 oq21 oq22 oq23 oq24 oq25 oq26 oq27 oq28 oq29
      refine zak fun K hK => ?_
      go_simp
      exact hK (.bool false) _ (Below.refl _ _) (fun _ => rfl)
    | 13, hi =>
      obtain rfl := Option.some.inj (oq13.symm.trans hi)
      have e119 : T[119]? = some (.bool false) := zai (by omega) (hdep 10 _ 119 (odt (by kernel_rfl)) oq10 rfl)
      have d121 : false = false → (T.getD 121 undef) = .bool false := hdep 12 _ 121 (odt (by kernel_rfl)) oq12 rfl
      refine zae rfl ?_
      obtain ⟨v121, e121, g121⟩ := zbh (T := T) (t := 121) (by omega)
      rw [g121] at d121
      clear g121
      have hC : false = false := rfl
      · have e := d121 hC
        subst e
        clear d121
        clear hdep hfree hsz hops fr oq0 oq1 oq2 oq3 oq4 oq5 oq6 oq7 oq8 oq9 oq10 oq11 oq12 oq13 oq14 oq15 oq16 oq17 oq18 oq19 oq20 oq21 oq22 oq23 oq24 oq25 oq26 oq27 oq28 oq29
        refine zak fun K hK => ?_
        go_simp
        exact hK (.bool false) _ (Below.refl _ _) rfl
    | 14, hi =>
      obtain rfl := Option.some.inj (oq14.symm.trans hi)
      have e122 : T[122]? = some (.bool false) := zai (by omega) (hdep 13 _ 122 (odt (by kernel_rfl)) oq13 rfl)
      refine zae rfl ?_
      clear hdep hfree hsz hops fr oq0 oq1 oq2 oq3 oq4 oq5 oq6 oq7 oq8 oq9 oq10 oq11 oq12 oq13 oq14 oq15 oq16 oq17 oq18 oq19 oq20 oq21 oq22 oq23 oq24 oq25 oq26 oq27 oq28 oq29
      refine zak fun K hK => ?_
      go_simp
      exact hK (.bool false) _ (Below.refl _ _) (rfl)
    | 15, hi =>
      obtain rfl := Option.some.inj (oq15.symm.trans hi)
      have e18 : T[18]? = some (.pointer (some ⟨w12.heap.size, 0, none⟩)) := hfree 18 (fr 18 (by kernel_rfl))
      refine zat (T := T) (j := 14) rfl oq14 rfl (hdep 14 _ 123 (odt (by kernel_rfl)) oq14 rfl) (by omega) (fun hC e123 => ?_) (fun hC h => by first | exact absurd hC (by decide) | (rw [hC] at h; cases h))
      clear hdep hfree hsz hops fr oq0 oq1 oq2 oq3 oq4 oq5 oq6 oq7 oq8 oq9 oq10 oq11 oq12 oq13 oq14 oq15 oq16 oq17 oq18 oq19 oq20 oq21 oq22 oq23 oq24 oq25 oq26 oq27 oq28 oq29
      obtain ⟨c0, c1, c2⟩ := zac (R3.out.next hbw)
      refine zak fun K hK => ?_
      go_simp
      exact hK (.agg #[.bool (raw (pq + tq)).neg, .slice PP3 (raw (pq + tq)).num.length kP3, .slice QP3 (raw (pq + tq)).den.length dP3]) _ (Below.refl _ _) (fun _ => IsR.stb.next P3.out hbw)
    | 16, hi =>
      obtain rfl := Option.some.inj (oq16.symm.trans hi)
      have e12 : T[12]? = some (.pointer (some ⟨w6.heap.size, 0, none⟩)) := hfree 12 (fr 12 (by kernel_rfl))
      refine zat (T := T) (j := 14) rfl oq14 rfl (hdep 14 _ 123 (odt (by kernel_rfl)) oq14 rfl) (by omega) (fun hC e123 => ?_) (fun hC h => by first | exact absurd hC (by decide) | (rw [hC] at h; cases h))
      clear hdep hfree hsz hops fr oq0 oq1 oq2 oq3 oq4 oq5 oq6 oq7 oq8 oq9 oq10 oq11 oq12 oq13 oq14 oq15 oq16 oq17 oq18 oq19 oq20 oq21 oq22 oq23 oq24 oq25 oq26 oq27 oq28 oq29
      obtain ⟨c0, c1, c2⟩ := zac (R1.out.next hbw)
      refine zak fun K hK => ?_
      go_simp
      exact hK (.agg #[.bool (raw (pq)).neg, .slice PP1 (raw (pq)).num.length kP1, .slice QP1 (raw (pq)).den.length dP1]) _ (Below.refl _ _) (fun _ => IsR.stb.next P1.out hbw)
    | 17, hi =>
      obtain rfl := Option.some.inj (oq17.symm.trans hi)
      have e19 : T[19]? = some (.pointer (some ⟨w14.heap.size, 0, none⟩)) := hfree 19 (fr 19 (by kernel_rfl))
      refine zat (T := T) (j := 14) rfl oq14 rfl (hdep 14 _ 123 (odt (by kernel_rfl)) oq14 rfl) (by omega) (fun hC e123 => ?_) (fun hC h => by first | exact absurd hC (by decide) | (rw [hC] at h; cases h))
      clear hdep hfree hsz hops fr oq0 oq1 oq2 oq3 oq4 oq5 oq6 oq7 oq8 oq9 oq10 oq11 oq12 oq13 oq14 oq15 oq16 oq17 oq18 oq19 oq20 oq21 oq22 oq23 oq24 oq25 oq26 oq27 oq28 oq29
      obtain ⟨c0, c1, c2⟩ := zac (R4.out.next hbw)
      refine zak fun K hK => ?_
      go_simp
      exact hK (.agg #[.bool (raw (tq)).neg, .slice PP4 (raw (tq)).num.length kP4, .slice QP4 (raw (tq)).den.length dP4]) _ (Below.refl _ _) (fun _ => IsR.stb.next P4.out hbw)
    | 18, hi =>
      obtain rfl := Option.some.inj (oq18.symm.trans hi)
      refine zat (T := T) (j := 14) rfl oq14 rfl (hdep 14 _ 123 (odt (by kernel_rfl)) oq14 rfl) (by omega) (fun hC e123 => ?_) (fun hC h => by first | exact absurd hC (by decide) | (rw [hC] at h; cases h))
      have d125 : IsR W (Old W) (T.getD 125 undef) (raw (pq)) := hdep 16 _ 125 (odt (by kernel_rfl)) oq16 rfl hC
      obtain ⟨v125, e125, g125⟩ := zbh (T := T) (t := 125) (by omega)
      rw [g125] at d125
      clear g125
      have d126 : IsR W (Old W) (T.getD 126 undef) (raw (tq)) := hdep 17 _ 126 (odt (by kernel_rfl)) oq17 rfl hC
      obtain ⟨v126, e126, g126⟩ := zbh (T := T) (t := 126) (by omega)
      rw [g126] at d126
      clear g126
      clear hdep hfree hsz hops fr oq0 oq1 oq2 oq3 oq4 oq5 oq6 oq7 oq8 oq9 oq10 oq11 oq12 oq13 oq14 oq15 oq16 oq17 oq18 oq19 oq20 oq21 oq22 oq23 oq24 oq25 oq26 oq27 oq28 oq29
      refine zak fun K hK => ?_
      go_simp
      refine (raddq (qa := pq) (qb := tq) d125 d126 (SPQ.out.le (by omega)) (STQ.out.le (by omega)) rfl).mono ?_
      rintro e w' ⟨⟨v, rfl, hv⟩, hb⟩
      exact hK v w' hb (fun _ => IsQ.stb.old hv)
    | 19, hi =>
      obtain rfl := Option.some.inj (oq19.symm.trans hi)
      refine zat (T := T) (j := 14) rfl oq14 rfl (hdep 14 _ 123 (odt (by kernel_rfl)) oq14 rfl) (by omega) (fun hC e123 => ?_) (fun hC h => by first | exact absurd hC (by decide) | (rw [hC] at h; cases h))
      have d124 : IsR W (Old W) (T.getD 124 undef) (raw (pq + tq)) := hdep 15 _ 124 (odt (by kernel_rfl)) oq15 rfl hC
      obtain ⟨v124, e124, g124⟩ := zbh (T := T) (t := 124) (by omega)
      rw [g124] at d124
      clear g124
      have d127 : IsQ W (Old W) (T.getD 127 undef) (pq + tq) := hdep 18 _ 127 (odt (by kernel_rfl)) oq18 rfl hC
      obtain ⟨v127, e127, g127⟩ := zbh (T := T) (t := 127) (by omega)
      rw [g127] at d127
      clear g127
      clear hdep hfree hsz hops fr oq0 oq1 oq2 oq3 oq4 oq5 oq6 oq7 oq8 oq9 oq10 oq11 oq12 oq13 oq14 oq15 oq16 oq17 oq18 oq19 oq20 oq21 oq22 oq23 oq24 oq25 oq26 oq27 oq28 oq29
      refine zak fun K hK => ?_
      go_simp
      refine (same_r d124 d127).mono ?_
      rw [decide_eq_true rfl]
      rintro e w' ⟨rfl, hb⟩
      exact hK _ w' hb (fun _ => rfl)
    | 20, hi =>
      obtain rfl := Option.some.inj (oq20.symm.trans hi)
      refine zat (T := T) (j := 14) rfl oq14 rfl (hdep 14 _ 123 (odt (by kernel_rfl)) oq14 rfl) (by omega) (fun hC e123 => ?_) (fun hC h => by first | exact absurd hC (by decide) | (rw [hC] at h; cases h))
      have e128 : T[128]? = some (.bool true) := zai (by omega) (hdep 19 _ 128 (odt (by kernel_rfl)) oq19 rfl hC)
      clear hdep hfree hsz hops fr oq0 oq1 oq2 oq3 oq4 oq5 oq6 oq7 oq8 oq9 oq10 oq11 oq12 oq13 oq14 oq15 oq16 oq17 oq18 oq19 oq20 oq21 oq22 oq23 oq24 oq25 oq26 oq27 oq28 oq29
      refine zak fun K hK => ?_
      go_simp
      exact hK (.bool false) _ (Below.refl _ _) (fun _ => rfl)
    | 21, hi =>
      obtain rfl := Option.some.inj (oq21.symm.trans hi)
      have e123 : T[123]? = some (.bool false) := zai (by omega) (hdep 14 _ 123 (odt (by kernel_rfl)) oq14 rfl)
      have d129 : false = false → (T.getD 129 undef) = .bool false := hdep 20 _ 129 (odt (by kernel_rfl)) oq20 rfl
      refine zae rfl ?_
      obtain ⟨v129, e129, g129⟩ := zbh (T := T) (t := 129) (by omega)
      rw [g129] at d129
      clear g129
      have hC : false = false := rfl
      · have e := d129 hC
        subst e
        clear d129
        clear hdep hfree hsz hops fr oq0 oq1 oq2 oq3 oq4 oq5 oq6 oq7 oq8 oq9 oq10 oq11 oq12 oq13 oq14 oq15 oq16 oq17 oq18 oq19 oq20 oq21 oq22 oq23 oq24 oq25 oq26 oq27 oq28 oq29
        refine zak fun K hK => ?_
        go_simp
        exact hK (.bool false) _ (Below.refl _ _) rfl
    | 22, hi =>
      obtain rfl := Option.some.inj (oq22.symm.trans hi)
      have e130 : T[130]? = some (.bool false) := zai (by omega) (hdep 21 _ 130 (odt (by kernel_rfl)) oq21 rfl)
      refine zae rfl ?_
      clear hdep hfree hsz hops fr oq0 oq1 oq2 oq3 oq4 oq5 oq6 oq7 oq8 oq9 oq10 oq11 oq12 oq13 oq14 oq15 oq16 oq17 oq18 oq19 oq20 oq21 oq22 oq23 oq24 oq25 oq26 oq27 oq28 oq29
      refine zak fun K hK => ?_
      go_simp
      exact hK (.bool false) _ (Below.refl _ _) (rfl)
    | 23, hi =>
      obtain rfl := Option.some.inj (oq23.symm.trans hi)
      have e21 : T[21]? = some (.pointer (some ⟨w17.heap.size, 0, none⟩)) := hfree 21 (fr 21 (by kernel_rfl))
      refine zat (T := T) (j := 22) rfl oq22 rfl (hdep 22 _ 131 (odt (by kernel_rfl)) oq22 rfl) (by omega) (fun hC e131 => ?_) (fun hC h => by first | exact absurd hC (by decide) | (rw [hC] at h; cases h))
      clear hdep hfree hsz hops fr oq0 oq1 oq2 oq3 oq4 oq5 oq6 oq7 oq8 oq9 oq10 oq11 oq12 oq13 oq14 oq15 oq16 oq17 oq18 oq19 oq20 oq21 oq22 oq23 oq24 oq25 oq26 oq27 oq28 oq29
      obtain ⟨c0, c1, c2⟩ := zac (R5.out.next hbw)
      refine zak fun K hK => ?_
      go_simp
      exact hK (.agg #[.bool (raw (pq * x)).neg, .slice PP5 (raw (pq * x)).num.length kP5, .slice QP5 (raw (pq * x)).den.length dP5]) _ (Below.refl _ _) (fun _ => IsR.stb.next P5.out hbw)
    | 24, hi =>
      obtain rfl := Option.some.inj (oq24.symm.trans hi)
      have e12 : T[12]? = some (.pointer (some ⟨w6.heap.size, 0, none⟩)) := hfree 12 (fr 12 (by kernel_rfl))
      refine zat (T := T) (j := 22) rfl oq22 rfl (hdep 22 _ 131 (odt (by kernel_rfl)) oq22 rfl) (by omega) (fun hC e131 => ?_) (fun hC h => by first | exact absurd hC (by decide) | (rw [hC] at h; cases h))
      clear hdep hfree hsz hops fr oq0 oq1 oq2 oq3 oq4 oq5 oq6 oq7 oq8 oq9 oq10 oq11 oq12 oq13 oq14 oq15 oq16 oq17 oq18 oq19 oq20 oq21 oq22 oq23 oq24 oq25 oq26 oq27 oq28 oq29
      obtain ⟨c0, c1, c2⟩ := zac (R1.out.next hbw)
      refine zak fun K hK => ?_
      go_simp
      exact hK (.agg #[.bool (raw (pq)).neg, .slice PP1 (raw (pq)).num.length kP1, .slice QP1 (raw (pq)).den.length dP1]) _ (Below.refl _ _) (fun _ => IsR.stb.next P1.out hbw)
    | 25, hi =>
      obtain rfl := Option.some.inj (oq25.symm.trans hi)
      have e11 : T[11]? = some (.pointer (some ⟨w4.heap.size, 0, none⟩)) := hfree 11 (fr 11 (by kernel_rfl))
      refine zat (T := T) (j := 22) rfl oq22 rfl (hdep 22 _ 131 (odt (by kernel_rfl)) oq22 rfl) (by omega) (fun hC e131 => ?_) (fun hC h => by first | exact absurd hC (by decide) | (rw [hC] at h; cases h))
      clear hdep hfree hsz hops fr oq0 oq1 oq2 oq3 oq4 oq5 oq6 oq7 oq8 oq9 oq10 oq11 oq12 oq13 oq14 oq15 oq16 oq17 oq18 oq19 oq20 oq21 oq22 oq23 oq24 oq25 oq26 oq27 oq28 oq29
      obtain ⟨c0, c1, c2⟩ := zac (RX.out.next hbw)
      refine zak fun K hK => ?_
      go_simp
      exact hK (.agg #[.bool sx, .slice Px (lim x.num.natAbs).length kx, .slice Ox (lim x.den).length lx]) _ (Below.refl _ _) (fun _ => IsQ.stb.next X.out hbw)
    | 26, hi =>
      obtain rfl := Option.some.inj (oq26.symm.trans hi)
      refine zat (T := T) (j := 22) rfl oq22 rfl (hdep 22 _ 131 (odt (by kernel_rfl)) oq22 rfl) (by omega) (fun hC e131 => ?_) (fun hC h => by first | exact absurd hC (by decide) | (rw [hC] at h; cases h))
      have d133 : IsR W (Old W) (T.getD 133 undef) (raw (pq)) := hdep 24 _ 133 (odt (by kernel_rfl)) oq24 rfl hC
      obtain ⟨v133, e133, g133⟩ := zbh (T := T) (t := 133) (by omega)
      rw [g133] at d133
      clear g133
      have d134 : IsQ W (Old W) (T.getD 134 undef) (x) := hdep 25 _ 134 (odt (by kernel_rfl)) oq25 rfl hC
      obtain ⟨v134, e134, g134⟩ := zbh (T := T) (t := 134) (by omega)
      rw [g134] at d134
      clear g134
      clear hdep hfree hsz hops fr oq0 oq1 oq2 oq3 oq4 oq5 oq6 oq7 oq8 oq9 oq10 oq11 oq12 oq13 oq14 oq15 oq16 oq17 oq18 oq19 oq20 oq21 oq22 oq23 oq24 oq25 oq26 oq27 oq28 oq29
      refine zak fun K hK => ?_
      go_simp
      refine (rmulq (qa := pq) (qb := x) d133 d134 (SPQ.out.le (by omega)) (HSx.out.le (by omega)) rfl).mono ?_
      rintro e w' ⟨⟨v, rfl, hv⟩, hb⟩
      exact hK v w' hb (fun _ => IsQ.stb.old hv)
    | 27, hi =>
      obtain rfl := Option.some.inj (oq27.symm.trans hi)
      refine zat (T := T) (j := 22) rfl oq22 rfl (hdep 22 _ 131 (odt (by kernel_rfl)) oq22 rfl) (by omega) (fun hC e131 => ?_) (fun hC h => by first | exact absurd hC (by decide) | (rw [hC] at h; cases h))
      have d132 : IsR W (Old W) (T.getD 132 undef) (raw (pq * x)) := hdep 23 _ 132 (odt (by kernel_rfl)) oq23 rfl hC
      obtain ⟨v132, e132, g132⟩ := zbh (T := T) (t := 132) (by omega)
      rw [g132] at d132
      clear g132
      have d135 : IsQ W (Old W) (T.getD 135 undef) (pq * x) := hdep 26 _ 135 (odt (by kernel_rfl)) oq26 rfl hC
      obtain ⟨v135, e135, g135⟩ := zbh (T := T) (t := 135) (by omega)
      rw [g135] at d135
      clear g135
      clear hdep hfree hsz hops fr oq0 oq1 oq2 oq3 oq4 oq5 oq6 oq7 oq8 oq9 oq10 oq11 oq12 oq13 oq14 oq15 oq16 oq17 oq18 oq19 oq20 oq21 oq22 oq23 oq24 oq25 oq26 oq27 oq28 oq29
      refine zak fun K hK => ?_
      go_simp
      refine (same_r d132 d135).mono ?_
      rw [decide_eq_true rfl]
      rintro e w' ⟨rfl, hb⟩
      exact hK _ w' hb (fun _ => rfl)
    | 28, hi =>
      obtain rfl := Option.some.inj (oq28.symm.trans hi)
      refine zat (T := T) (j := 22) rfl oq22 rfl (hdep 22 _ 131 (odt (by kernel_rfl)) oq22 rfl) (by omega) (fun hC e131 => ?_) (fun hC h => by first | exact absurd hC (by decide) | (rw [hC] at h; cases h))
      have e136 : T[136]? = some (.bool true) := zai (by omega) (hdep 27 _ 136 (odt (by kernel_rfl)) oq27 rfl hC)
      clear hdep hfree hsz hops fr oq0 oq1 oq2 oq3 oq4 oq5 oq6 oq7 oq8 oq9 oq10 oq11 oq12 oq13 oq14 oq15 oq16 oq17 oq18 oq19 oq20 oq21 oq22 oq23 oq24 oq25 oq26 oq27 oq28 oq29
      refine zak fun K hK => ?_
      go_simp
      exact hK (.bool false) _ (Below.refl _ _) (fun _ => rfl)
    | 29, hi =>
      obtain rfl := Option.some.inj (oq29.symm.trans hi)
      have e131 : T[131]? = some (.bool false) := zai (by omega) (hdep 22 _ 131 (odt (by kernel_rfl)) oq22 rfl)
      have d137 : false = false → (T.getD 137 undef) = .bool false := hdep 28 _ 137 (odt (by kernel_rfl)) oq28 rfl
      refine zae rfl ?_
      obtain ⟨v137, e137, g137⟩ := zbh (T := T) (t := 137) (by omega)
      rw [g137] at d137
      clear g137
      have hC : false = false := rfl
      · have e := d137 hC
        subst e
        clear d137
        clear hdep hfree hsz hops fr oq0 oq1 oq2 oq3 oq4 oq5 oq6 oq7 oq8 oq9 oq10 oq11 oq12 oq13 oq14 oq15 oq16 oq17 oq18 oq19 oq20 oq21 oq22 oq23 oq24 oq25 oq26 oq27 oq28 oq29
        refine zak fun K hK => ?_
        go_simp
        exact hK (.bool false) _ (Below.refl _ _) rfl
    | _ + 30, hi => rw [hops] at hi; cases hi
  case fin =>
    intro a W hsz hdf hbw hfree hall
    obtain ⟨⟨l⟩, df⟩ := a
    replace hsz : l.length = 206 := hsz
    obtain ⟨fs, rfl⟩ := open206 hsz
    obtain rfl : df = [] := hdf
    have bs1 : fs 1 = .int .i64 (N : Int) := Option.some.inj (hfree 1 (fr 1 (by kernel_rfl)))
    have bs2 : fs 2 = .int .i64 (MM : Int) := Option.some.inj (hfree 2 (fr 2 (by kernel_rfl)))
    have bs6 : fs 6 = .bool false := Option.some.inj (hfree 6 (fr 6 (by kernel_rfl)))
    have bs7 : fs 7 = .pointer (some ⟨w.heap.size, 0, none⟩) := Option.some.inj (hfree 7 (fr 7 (by kernel_rfl)))
    have bs138 : fs 138 = .bool false := hall 29 _ 138 oq29 rfl
    clear hops fr oq0 oq1 oq2 oq3 oq4 oq5 oq6 oq7 oq8 oq9 oq10 oq11 oq12 oq13 oq14 oq15 oq16 oq17 oq18 oq19 oq20 oq21 oq22 oq23 oq24 oq25 oq26 oq27 oq28 oq29
    clear hall hfree hsz
    rw [bs1, bs2, bs6, bs7, bs138]
    clear bs1 bs2 bs6 bs7 bs138
    have BB := Lib.hid (zaa BB.out hbw)
    replace D := Lib.hid (D.out.next hbw (IsD.lt D.out))
    clear X RX P1 R1 P3 R3 P4 R4 P5 R5
    obtain ⟨w19, hW⟩ : ∃ x, x = W := ⟨_, rfl⟩
    rw [← hW] at BB D ⊢
    clear hW hbw
    go_wp2_with fail
    refine (matrix_i D.out rfl rfl (n := N) (m := MM) (by omega) (by omega)).mono ?_
    rintro e w20 ⟨⟨vMB, z, rfl, h, b, rfl, hs⟩, hD, hG⟩
    replace BB := Lib.hid (BB.out.grown hG BB.out.size (fun k hk => by cases hk; exact Nat.le_refl _))
    have MB := Lib.hid (IsM.stb.le h (m := w.heap.size + 1) (by have h1 := (IsD.lt D.out); omega))
    replace D := Lib.hid hD
    have HDb := Lib.hid hs
    clear hs
    clear h hD hG
    go_wp2_with fail
    refine (matrix_i D.out rfl rfl (n := MM) (m := N) (by omega) (by omega)).mono ?_
    rintro e w21 ⟨⟨vMC, z, rfl, h, c, rfl, hs⟩, hD, hG⟩
    replace BB := Lib.hid (BB.out.grown hG BB.out.size (fun k hk => by cases hk; exact Nat.le_refl _))
    replace MB := Lib.hid (IsM.stb.drawn MB.out hG HG.out)
    have MC := Lib.hid (IsM.stb.le h (m := w.heap.size + 1) (by have h1 := (IsD.lt D.out); omega))
    replace D := Lib.hid hD
    have HDc := Lib.hid hs
    clear hs
    clear h hD hG
    go_wp2_with fail
    replace MB := Lib.hid (IsM.stb.old MB.out)
    replace MC := Lib.hid (IsM.stb.old MC.out)
    clear D
    have SB := Lib.hid (HDb.out.sz (by omega))
    have SC := Lib.hid (HDc.out.sz (by omega))
    refine (vMul_d (n := N) (m := MM) (p := N) MB.out MC.out (Bru.next HB.out BB.out) HDb.out.len HDb.out.row HDc.out.len HDc.out.row SB.out SC.out hN1 hN4 hM1 hM4 hN1 hN4).mono ?_
    rintro e w22 ⟨⟨vL, rfl, h⟩, hb⟩
    replace BB := Lib.hid (zaa BB.out hb)
    replace MB := Lib.hid (IsM.stb.next MB.out hb)
    replace MC := Lib.hid (IsM.stb.next MC.out hb)
    have ML := Lib.hid h
    clear h hb
    go_wp2_with fail
    refine (vTurn_d (n := N) (m := N) ML.out (Bru.next HB.out BB.out) (mulQ_lenE HDb.out.len) mulQ_row hN1 hN4 hN4 (mulQ_d HDb.out.row HDc.out.len hM4 HDc.out.row SB.out SC.out)).mono ?_
    rintro e w23 ⟨⟨vF, rfl, h⟩, hb⟩
    replace BB := Lib.hid (zaa BB.out hb)
    replace MB := Lib.hid (IsM.stb.next MB.out hb)
    replace MC := Lib.hid (IsM.stb.next MC.out hb)
    replace ML := Lib.hid (IsM.stb.next ML.out hb)
    have LF := Lib.hid h
    obtain ⟨FA, fa, rfl, _⟩ := zdg h
    clear h hb
    go_wp2_with fail
    clear ML
    refine (vTurn_d (n := N) (m := MM) MB.out (Bru.next HB.out BB.out) HDb.out.len HDb.out.row hN1 hN4 hM4 (one_sz SB.out)).mono ?_
    rintro e w24 ⟨⟨vTB, rfl, h⟩, hb⟩
    replace BB := Lib.hid (zaa BB.out hb)
    replace MB := Lib.hid (IsM.stb.next MB.out hb)
    replace MC := Lib.hid (IsM.stb.next MC.out hb)
    replace LF := Lib.hid (IsM.stb.next LF.out hb)
    have TB := Lib.hid h
    clear h hb
    go_wp2_with fail
    clear MB
    refine (vTurn_d (n := MM) (m := N) MC.out (Bru.next HB.out BB.out) HDc.out.len HDc.out.row hM1 hM4 hN4 (one_sz SC.out)).mono ?_
    rintro e w25 ⟨⟨vTC, rfl, h⟩, hb⟩
    replace BB := Lib.hid (zaa BB.out hb)
    replace MC := Lib.hid (IsM.stb.next MC.out hb)
    replace LF := Lib.hid (IsM.stb.next LF.out hb)
    replace TB := Lib.hid (IsM.stb.next TB.out hb)
    have TC := Lib.hid h
    clear h hb
    go_wp2_with fail
    clear MC
    refine (vMul_d (n := N) (m := MM) (p := N) TC.out TB.out (Bru.next HB.out BB.out) (zdj c N) (turnQ_row HDc.out.len) (zdj b MM) (turnQ_row HDb.out.len) (turnQ_sz HDc.out.row SC.out) (turnQ_sz HDb.out.row SB.out) hN1 hN4 hM1 hM4 hN1 hN4).mono ?_
    rw [← turn_mul HDb.out.len HDb.out.row HDc.out.len HDc.out.row]
    rintro e w26 ⟨⟨vR, rfl, h⟩, hb⟩
    replace BB := Lib.hid (zaa BB.out hb)
    replace LF := Lib.hid (IsM.stb.next LF.out hb)
    replace TB := Lib.hid (IsM.stb.next TB.out hb)
    replace TC := Lib.hid (IsM.stb.next TC.out hb)
    have RF := Lib.hid h
    clear h hb
    have eN : (((rawM (zdr (mulQ b c N) N)).length : Nat) : Int) = (N : Int) := by rw [zcy, zdj]
    go_wp2_with fail
    clear eN
    refine (same_m LF.out RF.out).mono ?_
    rw [decide_eq_true rfl]
    rintro e w27 ⟨rfl, hb⟩
    replace BB := Lib.hid (zaa BB.out hb)
    replace LF := Lib.hid (IsM.stb.next LF.out hb)
    replace TB := Lib.hid (IsM.stb.next TB.out hb)
    replace TC := Lib.hid (IsM.stb.next TC.out hb)
    replace RF := Lib.hid (IsM.stb.next RF.out hb)
    clear hb
    go_wp2_with fail
    refine (awake3_l (Bru.next HB.out BB.out)).mono ?_
    rintro e wz ⟨rfl, hb⟩
    go_wp2_with fail
    go_ret
    exact ⟨rfl, zaa BB.out hb⟩
theorem law_vlinE {w : World} {vl : Value} {l : List Int} (hl : IsIL w (Old w) vl l) (n : Int) (hn : (Lit.int .i64 n).wf = true) (m : Int) (hm : (Lit.int .i64 m).wf = true) (hB : Bru w) :
    Calls Tryz.prog 7 #[vl, .int .i64 n, .int .i64 m] w fun e w' => e = .returned (.bool true) ∧ Below w.heap.size w w' := law_vlin hl (in64_of hn) (in64_of hm) hB
end Go.Proofs.YtblpaocignlpkaaGreatDoor
