/-
  The contract of parlourlaw05's program.
-/
import Derived.Test.YtblpaocignlpkaaDoorProofDualTwice02
import Derived.Test.YtblpaocignlpkaaDoorBase03
namespace Go.Proofs.YtblpaocignlpkaaDoor
open Go.RowKit
set_option linter.unusedVariables false

theorem open65 {l : List Value} (h : l.length = 65) : ∃ fs : Nat → Value, l = [fs 0, fs 1, fs 2, fs 3, fs 4, fs 5, fs 6, fs 7, fs 8, fs 9, fs 10, fs 11, fs 12, fs 13, fs 14, fs 15, fs 16, fs 17, fs 18, fs 19, fs 20, fs 21, fs 22, fs 23, fs 24, fs 25, fs 26, fs 27, fs 28, fs 29, fs 30, fs 31, fs 32, fs 33, fs 34, fs 35, fs 36, fs 37, fs 38, fs 39, fs 40, fs 41, fs 42, fs 43, fs 44, fs 45, fs 46, fs 47, fs 48, fs 49, fs 50, fs 51, fs 52, fs 53, fs 54, fs 55, fs 56, fs 57, fs 58, fs 59, fs 60, fs 61, fs 62, fs 63, fs 64] := by
  refine ⟨fun i => l.getD i undef, ?_⟩
  have e : l = (List.range 65).map (fun i => l.getD i undef) := by
    apply List.ext_getElem
    · simp [h]
    · intro i h1 h2
      simp [List.getD_eq_getElem?_getD, List.getElem?_eq_getElem h1]
  exact e.trans rfl
theorem ratof_s {w : World} (a b : Int) (ha : a.natAbs ≤ 1000000) (hb : 1 ≤ b) (hb1 : b ≤ 1000000) :
    Calls Tryd.prog 21 #[.int .i64 a, .int .i64 b] w fun e w' => (∃ v q, e = .returned v ∧ IsQ w' (New w.heap.size w') v q ∧ Sz q 3) ∧ Below w.heap.size w w' := by
  have e : b = ((b.toNat : Nat) : Int) := by omega
  rw [e]
  exact (ratof_q (a := a) (b := b.toNat) (by omega) (by omega) (by omega)).mono fun e w' ⟨⟨v, he, hv⟩, h⟩ => ⟨⟨v, _, he, hv, quot_sz (by omega) (by omega) (by omega)⟩, h⟩

/-- The rows and the right sides that were drawn. -/
structure OutAB (n j base : Nat) (w : World) (va vb : Value) (SA SB : Nat → Prop) (A : List (List Rat)) (B : List Rat) : Prop where
  lA : A.length = j
  lB : B.length = j
  rows : ∀ row ∈ A, row.length = n ∧ ∀ e ∈ row, Sz e 3
  szB : ∀ e ∈ B, Sz e 3
  ownA : OwnS 1 29 IsV w base SA va (rawM A)
  ownB : OwnS 3 50 IsR w base SB vb (rawV B)
  sA : ∀ b, SA b → base ≤ b ∧ vb.ownBlock ≠ some b
  sB : ∀ b, SB b → base ≤ b ∧ va.ownBlock ≠ some b
  ne : ∀ b, va.ownBlock = some b → vb.ownBlock ≠ some b
theorem OutAB.grown {n j base : Nat} {w w' : World} {va vb : Value} {SA SB : Nat → Prop} {A : List (List Rat)} {B : List Rat} {g : Nat} (h : OutAB n j base w va vb SA SB A B) (hb : w.grownBy w' (some g)) (hg : g < base) : OutAB n j base w' va vb SA SB A B :=
  ⟨h.lA, h.lB, h.rows, h.szB, h.ownA.grown IsV.stb hb fun b e => ⟨fun e' => by have := h.ownA.own_lt b e'; cases e; omega, fun e' => by have := (h.sA b e').1; cases e; omega⟩,
    h.ownB.grown IsR.stb hb fun b e => ⟨fun e' => by have := h.ownB.own_lt b e'; cases e; omega, fun e' => by have := (h.sB b e').1; cases e; omega⟩, h.sA, h.sB, h.ne⟩

/-- What program returns. -/
def ProgOut (n m lo : Nat) (e : Ending) (w' : World) : Prop := ∃ v q, e = .returned v ∧ IsP w' (New lo w') v (rawP q) ∧ Good q 3 ∧ q.B.length = m ∧ q.C.length = n
set_option maxRecDepth 100000 in
set_option maxHeartbeats 8000000 in
theorem program_l {w : World} {g : Nat} {l : List Int} (hD : IsD w g l) {n m0 : Nat} (hn : n ≤ 40) (hm0 : m0 ≤ 40) :
    Calls Tryd.prog 8 #[.pointer (some ⟨g, 0, none⟩), .int .i64 (n : Int), .int .i64 (m0 : Int)] w fun e w' => ProgOut n m0 w.heap.size e w' ∧ IsD w' g l ∧ w.grownBy w' (some g) := by
  have hgw : g < w.heap.size := hD.lt
  obtain ⟨w0, hw0, hb0, rZ, rP, Hz⟩ := boxes2 w #[.slice none 0 0, .slice none 0 0, .slice none 0 0] #[.slice none 0 0, .slice none 0 0, .slice none 0 0] 31 31
  have D0 := Lib.hid (hD.next hb0 hgw)
  have B0 := Lib.hid hb0
  have RZ := Lib.hid rZ
  have RP := Lib.hid rP
  clear hD hb0 rZ rP
  go_enter Tryd.func8, Tryd.ntmps8
  go_wp2_with fail
  clear hw0
  go_loopw [8, 9, 10] (fun i _ _ wr => ∃ (j : Nat) (va vb : Value) (SA SB : Nat → Prop) (A : List (List Rat)) (B : List Rat), j ≤ m0 ∧ i = .int .i64 (j : Int) ∧ w.grownBy wr (some g) ∧ IsD wr g l ∧ Row wr w.heap.size 31 [.slice none 0 0, .slice none 0 0, .slice none 0 0] ∧ Row wr (w.heap.size + 1) 31 [va, vb, .slice none 0 0] ∧ Hid (OutAB n j (w.heap.size + 2) wr va vb SA SB A B)) (fun i _ _ _ => m0 - (intOf i).toNat)
  case atStart =>
    refine ⟨0, _, _, fun _ => False, fun _ => False, [], [], Nat.zero_le _, rfl, grown_below B0.out, D0.out, RZ.out, RP.out, ?_⟩
    exact ⟨rfl, rfl, fun _ h => (by cases h), fun _ h => (by cases h), OwnS.nil (fun b h => h.elim), OwnS.nil (fun b h => h.elim), fun b h => h.elim, fun b h => h.elim, fun b h => (by cases h)⟩
  case round =>
    obtain ⟨wo, rfl⟩ : ∃ x, x = wr := ⟨_, rfl⟩
    obtain ⟨j, va, vb, SA0, SB, A, B, hj, rfl, hgr, hD, hZ, hP, hout⟩ := hrel
    have Hgr := Lib.hid hgr
    have HD := Lib.hid hD
    have HZ := Lib.hid hZ
    have HP := Lib.hid hP
    have Hj := Lib.hid hj
    have hsz : w.heap.size + 2 ≤ wo.heap.size := by have := hP.lt; omega
    have Hsz := Lib.hid hsz
    clear hgr hD hZ hP hj hsz
    rcases Nat.lt_or_ge j m0 with hlt | hge
    · have Hlt := Lib.hid hlt
      go_wp2_with fail
      clear hlt
      go_loopw [9, 10] (fun row k wr => ∃ (c : Nat) (S2 : Nat → Prop) (r : List Rat), c ≤ n ∧ k = .int .i64 (c : Int) ∧ wo.grownBy wr (some g) ∧ IsD wr g l ∧ OwnS 3 50 IsR wr wo.heap.size S2 row (rawV r) ∧ Hid (r.length = c ∧ (∀ e ∈ r, Sz e 3) ∧ ∀ b, S2 b → wo.heap.size ≤ b)) (fun _ k _ => n - (intOf k).toNat)
      case atStart => exact ⟨0, fun _ => False, [], Nat.zero_le _, rfl, grown_refl _ _, HD.out, OwnS.nil (fun b h => h.elim), rfl, (fun _ h => by cases h), fun b h => h.elim⟩
      case round =>
        obtain ⟨c, S2, r, hc, rfl, hgi, hDi, hown, hr⟩ := hrel
        have Hgi := Lib.hid hgi
        have HDi := Lib.hid hDi
        have Own := Lib.hid hown
        clear hgi hDi hown
        have hg1 : g < wo.heap.size := HD.out.lt
        rcases Nat.lt_or_ge c n with hcn | hcn
        · go_wp2_with fail
          refine (next_i HDi.out 9 (by omega) (by omega)).mono ?_
          rintro e w1 ⟨⟨x, hx0, hx1, rfl⟩, hD1, hO1⟩
          have HD1 := Lib.hid hD1
          have G1 := Lib.hid hO1.grown
          clear hD1 hO1
          go_wp2_with fail
          refine (next_i HD1.out 2 (by omega) (by omega)).mono ?_
          rintro e w2 ⟨⟨y, hy0, hy1, rfl⟩, hD2, hO2⟩
          have HD2 := Lib.hid hD2
          have G2 := Lib.hid (grown_trans G1.out hO2.grown)
          clear hD2 hO2
          go_wp2_with fail
          refine (ratof_s (x - 4) (1 + y) (by omega) (by omega) (by omega)).mono ?_
          rintro e w3 ⟨⟨v3, q, rfl, hv3, hsq⟩, hb3⟩
          have ho2 : OwnS 3 50 IsR w2 wo.heap.size S2 _ (rawV r) := Own.out.grown IsR.stb G2.out fun b e => ⟨fun e' => by have := Own.out.own_lt b e'; cases e; omega, fun e' => by have := hr.out.2.2 b e'; cases e; omega⟩
          have hown3 := OwnS.step IsR.stb (T := fun b => S2 b ∨ (w2.heap.size ≤ b ∧ b < w3.heap.size)) ho2 hb3 (fun b h => .inl h) (fun b h => h)
          have hel3 := IsQ.stb.to hv3 (same_imp (T := fun b => S2 b ∨ (w2.heap.size ≤ b ∧ b < w3.heap.size)) fun b h => .inr h)
          obtain ⟨s3, P3, k3, O3, l3, rfl, _, _, _⟩ := isQ_open hv3
          have G3 := Lib.hid (grown_trans Hgi.out (grown_trans G2.out (grown_below hb3)))
          have HD3 := Lib.hid (HD2.out.next hb3 HD2.out.lt)
          have hbase : wo.heap.size ≤ w3.heap.size := G3.out.size
          have hrl := hr.out.1
          have Hsq := Lib.hid hsq
          have hz2 : wo.heap.size ≤ w2.heap.size := Nat.le_trans Hgi.out.size G2.out.size
          clear ho2 hb3 hv3 hsq
          go_wp2_with (at_builtin; refine wp_appS elR rfl _ _ rfl IsR.stb rfl rfl rfl hown3 hel3 rfl (by intro u hu; simp [Value.cells] at hu; rcases hu with rfl | rfl | rfl <;> rfl) (by rw [rawV_len]; omega) hbase ?_; intro v4 w4 hown4 hb4 hz4)
          go_roundw
          case rel =>
            refine ⟨c + 1, fun b => S2 b ∨ (w2.heap.size ≤ b ∧ b < w3.heap.size), r ++ [q], by omega, by go_num, grown_then G3.out hb4, HD3.out.next hb4 hg1, ?_, by simp [hrl], ?_, ?_⟩
            · rw [rawV, List.map_append]
              exact hown4
            · intro e he
              rcases List.mem_append.1 he with he | he
              · exact hr.out.2.1 e he
              · rw [List.mem_singleton] at he
                rw [he]
                exact Hsq.out
            · intro b hb
              rcases hb with hb | hb
              · exact hr.out.2.2 b hb
              · omega
          case measure => simp [intOf]; omega
        · obtain rfl : c = n := by omega
          obtain ⟨wn, rfl⟩ : ∃ x, x = wr := ⟨_, rfl⟩
          -- the row is finished
          have hO0 := (hout.out.grown (g := g) Hgi.out (by have := HP.out.lt; omega))
          obtain ⟨R, cR, rfl⟩ := Own.out.slice
          have hm : (rawV r).length = c := by rw [rawV_len, hr.out.1]
          obtain ⟨m, hm'⟩ : ∃ m, m = (rawV r).length := ⟨_, rfl⟩
          have hvA := OwnS.own_lt hout.out.ownA
          have hvB := OwnS.own_lt hout.out.ownB
          have hAn := OwnS.own_lt hO0.ownA
          have hBn := OwnS.own_lt hO0.ownB
          have hzn : wo.heap.size ≤ wn.heap.size := Hgi.out.size
          obtain ⟨SA, hSA⟩ : ∃ S : Nat → Prop, S = fun b => SA0 b ∨ (wo.heap.size ≤ b ∧ b < wn.heap.size) := ⟨_, rfl⟩
          have hSAx : ∀ b, SA b → w.heap.size + 2 ≤ b ∧ b < wn.heap.size ∧ va.ownBlock ≠ some b ∧ vb.ownBlock ≠ some b := by
            intro b hb
            rw [hSA] at hb
            rcases hb with hb | hb
            · obtain ⟨es, k1, k2, k3, k4⟩ := hO0.ownA
              exact ⟨(hout.out.sA b hb).1, (k4 b hb).1, fun e => (k4 b hb).2 e.symm, (hout.out.sA b hb).2⟩
            · exact ⟨by have := Hsz.out; omega, hb.2, fun e => by have := (hvA b e).2; omega, fun e => by have := (hvB b e).2; omega⟩
          have hSBx : ∀ b, SB b → w.heap.size + 2 ≤ b ∧ b < wn.heap.size ∧ va.ownBlock ≠ some b ∧ vb.ownBlock ≠ some b := by
            intro b hb
            obtain ⟨es, k1, k2, k3, k4⟩ := hO0.ownB
            exact ⟨(hout.out.sB b hb).1, (k4 b hb).1, (hout.out.sB b hb).2, fun e => (k4 b hb).2 e.symm⟩
          have OA := Lib.hid (OwnS.wider IsV.stb (T := SA) hO0.ownA (fun b h => by rw [hSA]; exact .inl h) fun b h => ⟨(hSAx b h).2.1, fun e => (hSAx b h).2.2.1 e.symm⟩)
          have OB := Lib.hid hO0.ownB
          have EV : Hid (IsV wn SA (.slice R (rawV r).length cR) (rawV r)) := OwnS.isS IsR.stb (T := SA) Own.out (fun b hb => by rw [hSA]; exact .inr ⟨hr.out.2.2 b hb, by obtain ⟨_, _, _, _, h4⟩ := Own.out; exact (h4 b hb).1⟩) (fun b h1 h2 => by rw [hSA]; exact .inr ⟨h1, h2⟩)
          have SAx := Lib.hid hSAx
          have SBx := Lib.hid hSBx
          have SPg : Hid ((w.heap.size + 1) ≠ g) := by rw [Hid]; omega
          have SBs : Hid (w.heap.size + 2 ≤ wn.heap.size) := by rw [Hid]; have := Hsz.out; omega
          have SM : Hid ((rawM A).length < 100 ∧ B.length < 100) := by rw [Hid, rawM_len, hout.out.lA, hout.out.lB]; have := Hlt.out; omega
          have SGA : Hid (∀ b, va.ownBlock = some b → g < b ∧ (w.heap.size + 1) ≠ b) := fun b e => by have := (hvA b e).1; omega
          have SGB : Hid (∀ b, vb.ownBlock = some b → g < b ∧ (w.heap.size + 1) ≠ b) := fun b e => by have := (hvB b e).1; omega
          have Svbn : Hid (∀ b, vb.ownBlock = some b → b < wn.heap.size) := fun b e => (hBn b e).2
          have Sbk : Hid (∀ k b, blkAB g va vb k = some b → b < wn.heap.size ∧ (k ≠ 4 → va.ownBlock ≠ some b ∧ ¬ SA b) ∧ (k ≠ 15 → vb.ownBlock ≠ some b ∧ ¬ SB b)) := by
            intro k b e
            have hnd : b = g ∨ va.ownBlock = some b ∨ vb.ownBlock = some b := by
              unfold blkAB at e
              split at e
              · exact .inr (.inl e)
              · exact .inl (by cases e; rfl)
              · exact .inl (by cases e; rfl)
              · exact .inr (.inr e)
              · cases e
            have hgb : ∀ v : Value, (∀ b, v.ownBlock = some b → w.heap.size + 2 ≤ b) → b = g → v.ownBlock ≠ some b := fun v hv e1 e2 => by have := hv b e2; omega
            refine ⟨?_, fun hk => ⟨?_, fun h => ?_⟩, fun hk => ⟨?_, fun h => ?_⟩⟩
            · rcases hnd with h | h | h
              · have := Hsz.out; omega
              · exact (hAn b h).2
              · exact (hBn b h).2
            · rcases hnd with h | h | h
              · exact hgb va (fun b h => (hvA b h).1) h
              · intro h0
                unfold blkAB at e
                split at e
                · exact hk rfl
                · cases e; have := (hvA _ h0).1; omega
                · cases e; have := (hvA _ h0).1; omega
                · exact hout.out.ne b h0 e
                · cases e
              · exact fun h0 => hout.out.ne b h0 h
            · have := hSAx b h
              rcases hnd with h | h | h
              · omega
              · exact this.2.2.1 h
              · exact this.2.2.2 h
            · rcases hnd with h | h | h
              · exact hgb vb (fun b h => (hvB b h).1) h
              · exact hout.out.ne b h
              · intro h0
                unfold blkAB at e
                split at e
                · exact hout.out.ne b e h0
                · cases e; have := (hvB _ h0).1; omega
                · cases e; have := (hvB _ h0).1; omega
                · exact hk rfl
                · cases e
            · have := hSBx b h
              rcases hnd with h | h | h
              · omega
              · exact this.2.2.1 h
              · exact this.2.2.2 h
          have GN := Lib.hid (grown_trans Hgr.out (r := some g) (c := wn) (Hgi.out))
          have ZN := Lib.hid (HZ.out.grownN Hgi.out fun b e => by cases e; omega)
          have PN := Lib.hid (HP.out.grownN Hgi.out fun b e => by cases e; omega)
          have Hvo := Lib.hid hout.out
          clear hout hO0 hvA hvB hAn hBn hSA hSAx hSBx
          rw [← hm'] at EV ⊢
          clear hm'
          go_wp2_with fail
          refine region_abs fun ops hops => ?_
          have oq0 := op_at (j := 0) hops rfl
          have oq1 := op_at (j := 1) hops rfl
          have oq2 := op_at (j := 2) hops rfl
          have oq3 := op_at (j := 3) hops rfl
          have oq4 := op_at (j := 4) hops rfl
          have oq5 := op_at (j := 5) hops rfl
          have oq6 := op_at (j := 6) hops rfl
          have oq7 := op_at (j := 7) hops rfl
          have oq8 := op_at (j := 8) hops rfl
          have oq9 := op_at (j := 9) hops rfl
          have oq10 := op_at (j := 10) hops rfl
          have oq11 := op_at (j := 11) hops rfl
          have oq12 := op_at (j := 12) hops rfl
          have oq13 := op_at (j := 13) hops rfl
          have oq14 := op_at (j := 14) hops rfl
          have oq15 := op_at (j := 15) hops rfl
          have oq16 := op_at (j := 16) hops rfl
          have oq17 := op_at (j := 17) hops rfl
          have oq18 := op_at (j := 18) hops rfl
          have oq19 := op_at (j := 19) hops rfl
          have fr := fun t h => slotZ_abs (n := 17) hops t h
          refine wp_region_rz 17 (PhiAB g (w.heap.size + 1) va vb R m cR wn.heap.size (w.heap.size + 2) SA SB A B r) (PreAB (w.heap.size + 2) va vb (.slice R m cR) SA SB A B r) (JD g (w.heap.size + 1) l [va, vb, .slice none 0 0] va.ownBlock vb.ownBlock wn) (fun k w w' => w.grownBy w' (blkAB g va vb k)) (by kernel_rfl) ?hJ0 ?hP0 ?hPs ?hst (by rw [hops]; kernel_rfl) (by rw [hops]; kernel_rfl) ?step ?fin
          case hJ0 => exact ⟨HDi.out.grownN (grown_below (row := none) (below_drew _)) (fun b e => by cases e), PN.out, (Kept.refl _ _ _ _).step (grown_below (row := none) (below_drew _)) (.inl rfl)⟩
          case hP0 =>
            exact fun i => ⟨fun _ => ⟨OA.out, EV.out⟩, fun _ => OB.out⟩
          case hPs =>
            intro i k wa wb hik h hJ hE
            refine ⟨fun e4 => ?_, fun e15 => ?_⟩
            · subst e4
              have h := And.left h rfl
              exact ⟨h.1.grown IsV.stb hE fun b e => ((Sbk.out k b e).2.1 (Ne.symm hik)), IsV.stb.to h.2 (same_grownS hE fun b hb => ⟨Nat.lt_of_lt_of_le (SAx.out b hb).2.1 hJ.2.2.size, fun e => ((Sbk.out k b e.symm).2.1 (Ne.symm hik)).2 hb⟩)⟩
            · subst e15
              exact (And.right h rfl).grown IsR.stb hE fun b e => ((Sbk.out k b e).2.2 (Ne.symm hik))
          case hst => exact fun i k v wa wb X u hik hX h hJ hE => phiAB_st Sbk.out i k v wa wb X u hik hX h hE
          case step =>
            intro i o hin hi a W X hsz hdf hJ hP hXi hfree hdep
            obtain ⟨T, df⟩ := a
            replace hsz : T.size = 65 := hsz
            obtain rfl : df = [] := hdf
            match i, hin, hi, hXi, hP with
            | 0, _, hi, hXi, hP =>
              obtain rfl := Option.some.inj (oq0.symm.trans hi)
              have e7 : T[7]? = some (.pointer (some ⟨(w.heap.size + 1), 0, none⟩)) := hfree 7 (fr 7 (by kernel_rfl))
              refine grow_free rfl ?_
              refine step_rz (E := fun w' => W.grownBy w' (none)) (Φ := PhiAB g (w.heap.size + 1) va vb R m cR wn.heap.size (w.heap.size + 2) SA SB A B r 0) fun K hK => ?_
              clear hdep hfree hsz hops fr oq0 oq1 oq2 oq3 oq4 oq5 oq6 oq7 oq8 oq9 oq10 oq11 oq12 oq13 oq14 oq15 oq16 oq17 oq18 oq19
              go_simp
              exact hK (.pointer (some ⟨(w.heap.size + 1), 0, none⟩)) _ (grown_refl _ _) hJ rfl
            | 1, _, hi, hXi, hP =>
              obtain rfl := Option.some.inj (oq1.symm.trans hi)
              have d32 : (T.getD 32 undef) = .pointer (some ⟨(w.heap.size + 1), 0, none⟩) := (hdep 0 _ (odt (by kernel_rfl)) oq0).2
              have e32 := slot_some (by omega) d32
              clear d32
              obtain ⟨c0, c1, c2⟩ := cells3 hJ.2.1
              refine grow_free rfl ?_
              refine step_rz (E := fun w' => W.grownBy w' (none)) (Φ := PhiAB g (w.heap.size + 1) va vb R m cR wn.heap.size (w.heap.size + 2) SA SB A B r 1) fun K hK => ?_
              clear hdep hfree hsz hops fr oq0 oq1 oq2 oq3 oq4 oq5 oq6 oq7 oq8 oq9 oq10 oq11 oq12 oq13 oq14 oq15 oq16 oq17 oq18 oq19
              go_simp
              exact hK (va) _ (grown_refl _ _) hJ rfl
            | 2, _, hi, hXi, hP =>
              obtain rfl := Option.some.inj (oq2.symm.trans hi)
              have e9 : T[9]? = some (.slice R m cR) := hfree 9 (fr 9 (by kernel_rfl))
              refine grow_free rfl ?_
              refine step_rz (E := fun w' => W.grownBy w' (none)) (Φ := PhiAB g (w.heap.size + 1) va vb R m cR wn.heap.size (w.heap.size + 2) SA SB A B r 2) fun K hK => ?_
              clear hdep hfree hsz hops fr oq0 oq1 oq2 oq3 oq4 oq5 oq6 oq7 oq8 oq9 oq10 oq11 oq12 oq13 oq14 oq15 oq16 oq17 oq18 oq19
              go_simp
              exact hK (.slice R m cR) _ (grown_refl _ _) hJ rfl
            | 3, _, hi, hXi, hP =>
              obtain rfl := Option.some.inj (oq3.symm.trans hi)
              have d34 : (T.getD 34 undef) = .slice R m cR := (hdep 2 _ (odt (by kernel_rfl)) oq2).2
              have e34 := slot_some (by omega) d34
              clear d34
              refine grow_free rfl ?_
              refine step_rz (E := fun w' => W.grownBy w' (none)) (Φ := PhiAB g (w.heap.size + 1) va vb R m cR wn.heap.size (w.heap.size + 2) SA SB A B r 3) fun K hK => ?_
              clear hdep hfree hsz hops fr oq0 oq1 oq2 oq3 oq4 oq5 oq6 oq7 oq8 oq9 oq10 oq11 oq12 oq13 oq14 oq15 oq16 oq17 oq18 oq19
              go_simp
              exact hK (.slice (some ⟨W.heap.size, 0, none⟩) 1 1) _ (grown_new _ _ _) (hJ.step (grown_new _ _ _) (.inl rfl) (fun b e => by cases e)) ⟨W.heap.size, rfl, hJ.2.2.size, heap_alloc_new _ _⟩
            | 4, _, hi, hXi, hP =>
              obtain rfl := Option.some.inj (oq4.symm.trans hi)
              have d33 : (T.getD 33 undef) = va := (hdep 1 _ (odt (by kernel_rfl)) oq1).2
              have e33 := slot_some (by omega) d33
              clear d33
              have d35 : NewRow W wn.heap.size 29 [.slice R m cR] (T.getD 35 undef) := (hdep 3 _ (odt (by kernel_rfl)) oq3).2
              obtain ⟨v35, e35, g35⟩ := slot_ex (T := T) (t := 35) (by omega)
              rw [g35] at d35
              clear g35
              refine grow_free rfl ?_
              refine step_rz (E := fun w' => W.grownBy w' (va.ownBlock)) (Φ := PhiAB g (w.heap.size + 1) va vb R m cR wn.heap.size (w.heap.size + 2) SA SB A B r 4) fun K hK => ?_
              clear hdep hfree hsz hops fr oq0 oq1 oq2 oq3 oq4 oq5 oq6 oq7 oq8 oq9 oq10 oq11 oq12 oq13 oq14 oq15 oq16 oq17 oq18 oq19
              obtain ⟨h35, rfl, hh1, hh2⟩ := d35
              refine step_appG elV (.tmp 33) (.tmp 35) rfl IsV.stb (tmp_some e33) (tmp_some e35) (ev := .slice R m cR) hh2 (And.left hP rfl).1 (And.left hP rfl).2 rfl (by intro u hu; simp [Value.cells] at hu; subst hu; rfl) (by have := SM.out; omega) (Nat.le_trans SBs.out hJ.2.2.size) fun v' w' h1 h2 h3 => hK v' w' h2 (hJ.step h2 (.inr (.inl rfl)) SGA.out) ⟨h1, h3.imp id fun h => ⟨_, h, hJ.2.2.size⟩⟩
            | 5, _, hi, hXi, hP =>
              obtain rfl := Option.some.inj (oq5.symm.trans hi)
              have e7 : T[7]? = some (.pointer (some ⟨(w.heap.size + 1), 0, none⟩)) := hfree 7 (fr 7 (by kernel_rfl))
              refine grow_free rfl ?_
              refine step_rz (E := fun w' => W.grownBy w' (none)) (Φ := PhiAB g (w.heap.size + 1) va vb R m cR wn.heap.size (w.heap.size + 2) SA SB A B r 5) fun K hK => ?_
              clear hdep hfree hsz hops fr oq0 oq1 oq2 oq3 oq4 oq5 oq6 oq7 oq8 oq9 oq10 oq11 oq12 oq13 oq14 oq15 oq16 oq17 oq18 oq19
              go_simp
              exact hK (.pointer (some ⟨(w.heap.size + 1), 1, none⟩)) _ (grown_refl _ _) hJ rfl
            | 6, _, hi, hXi, hP =>
              obtain rfl := Option.some.inj (oq6.symm.trans hi)
              have d37 : (T.getD 37 undef) = .pointer (some ⟨(w.heap.size + 1), 1, none⟩) := (hdep 5 _ (odt (by kernel_rfl)) oq5).2
              have e37 := slot_some (by omega) d37
              clear d37
              obtain ⟨c0, c1, c2⟩ := cells3 hJ.2.1
              refine grow_free rfl ?_
              refine step_rz (E := fun w' => W.grownBy w' (none)) (Φ := PhiAB g (w.heap.size + 1) va vb R m cR wn.heap.size (w.heap.size + 2) SA SB A B r 6) fun K hK => ?_
              clear hdep hfree hsz hops fr oq0 oq1 oq2 oq3 oq4 oq5 oq6 oq7 oq8 oq9 oq10 oq11 oq12 oq13 oq14 oq15 oq16 oq17 oq18 oq19
              go_simp
              exact hK (vb) _ (grown_refl _ _) hJ rfl
            | 7, _, hi, hXi, hP =>
              obtain rfl := Option.some.inj (oq7.symm.trans hi)
              have e0 : T[0]? = some (.pointer (some ⟨g, 0, none⟩)) := hfree 0 (fr 0 (by kernel_rfl))
              refine grow_free rfl ?_
              refine step_rz (E := fun w' => W.grownBy w' (none)) (Φ := PhiAB g (w.heap.size + 1) va vb R m cR wn.heap.size (w.heap.size + 2) SA SB A B r 7) fun K hK => ?_
              clear hdep hfree hsz hops fr oq0 oq1 oq2 oq3 oq4 oq5 oq6 oq7 oq8 oq9 oq10 oq11 oq12 oq13 oq14 oq15 oq16 oq17 oq18 oq19
              go_simp
              exact hK (.pointer (some ⟨g, 0, none⟩)) _ (grown_refl _ _) hJ rfl
            | 8, _, hi, hXi, hP =>
              obtain rfl := Option.some.inj (oq8.symm.trans hi)
              have d39 : (T.getD 39 undef) = .pointer (some ⟨g, 0, none⟩) := (hdep 7 _ (odt (by kernel_rfl)) oq7).2
              have e39 := slot_some (by omega) d39
              clear d39
              have x36 : X 4 = some (T.getD 36 undef) := (hdep 4 _ (odt (by kernel_rfl)) oq4).1
              have hl36 : ∀ b, (T.getD 36 undef).ownBlock = some b → w.heap.size + 2 ≤ b ∧ b < W.heap.size := fun b hb => OwnS.own_lt (hdep 4 _ (odt (by kernel_rfl)) oq4).2.1 b hb
              refine grow_free rfl ?_
              refine step_rz (E := fun w' => W.grownBy w' (some g)) (Φ := PhiAB g (w.heap.size + 1) va vb R m cR wn.heap.size (w.heap.size + 2) SA SB A B r 8) fun K hK => ?_
              clear hdep hfree hsz hops fr oq0 oq1 oq2 oq3 oq4 oq5 oq6 oq7 oq8 oq9 oq10 oq11 oq12 oq13 oq14 oq15 oq16 oq17 oq18 oq19
              go_simp
              refine (next_i hJ.1 12 (by omega) (by omega)).mono ?_
              rintro e w' ⟨⟨x, hx0, hx1, rfl⟩, hD, hO⟩
              exact hK (.int .i64 x) w' hO.grown (hJ.draw hD hO SPg.out) ⟨⟨x, hx0, by omega, rfl⟩, _, updX_some x36 hXi, fun b hb => Nat.lt_of_lt_of_le (hl36 b hb).2 (Nat.le_of_eq hO.size.symm)⟩
            | 9, _, hi, hXi, hP =>
              obtain rfl := Option.some.inj (oq9.symm.trans hi)
              have d40 : (∃ x : Int, 0 ≤ x ∧ x ≤ 11 ∧ (T.getD 40 undef) = .int .i64 x) ∧ (∃ u, X 4 = some u ∧ ∀ b, u.ownBlock = some b → b < W.heap.size) := (hdep 8 _ (odt (by kernel_rfl)) oq8).2
              obtain ⟨v40, e40, g40⟩ := slot_ex (T := T) (t := 40) (by omega)
              rw [g40] at d40
              clear g40
              obtain ⟨⟨x, hx0, hx1, rfl⟩, _⟩ := d40
              have hx : IntKind.i64.wrap (x - 3) = x - 3 := IntWalk.i64_in _ (by omega)
              refine grow_free rfl ?_
              refine step_rz (E := fun w' => W.grownBy w' (none)) (Φ := PhiAB g (w.heap.size + 1) va vb R m cR wn.heap.size (w.heap.size + 2) SA SB A B r 9) fun K hK => ?_
              clear hdep hfree hsz hops fr oq0 oq1 oq2 oq3 oq4 oq5 oq6 oq7 oq8 oq9 oq10 oq11 oq12 oq13 oq14 oq15 oq16 oq17 oq18 oq19
              go_simp
              clear hx
              exact hK (.int .i64 (x - 3)) _ (grown_refl _ _) hJ ⟨x - 3, by omega, by omega, rfl⟩
            | 10, _, hi, hXi, hP =>
              obtain rfl := Option.some.inj (oq10.symm.trans hi)
              have e0 : T[0]? = some (.pointer (some ⟨g, 0, none⟩)) := hfree 0 (fr 0 (by kernel_rfl))
              refine grow_free rfl ?_
              refine step_rz (E := fun w' => W.grownBy w' (none)) (Φ := PhiAB g (w.heap.size + 1) va vb R m cR wn.heap.size (w.heap.size + 2) SA SB A B r 10) fun K hK => ?_
              clear hdep hfree hsz hops fr oq0 oq1 oq2 oq3 oq4 oq5 oq6 oq7 oq8 oq9 oq10 oq11 oq12 oq13 oq14 oq15 oq16 oq17 oq18 oq19
              go_simp
              exact hK (.pointer (some ⟨g, 0, none⟩)) _ (grown_refl _ _) hJ rfl
            | 11, _, hi, hXi, hP =>
              obtain rfl := Option.some.inj (oq11.symm.trans hi)
              have d42 : (T.getD 42 undef) = .pointer (some ⟨g, 0, none⟩) := (hdep 10 _ (odt (by kernel_rfl)) oq10).2
              have e42 := slot_some (by omega) d42
              clear d42
              have hlow : ∃ u, X 4 = some u ∧ ∀ b, u.ownBlock = some b → b < W.heap.size := (hdep 8 _ (odt (by kernel_rfl)) oq8).2.2
              refine grow_free rfl ?_
              refine step_rz (E := fun w' => W.grownBy w' (some g)) (Φ := PhiAB g (w.heap.size + 1) va vb R m cR wn.heap.size (w.heap.size + 2) SA SB A B r 11) fun K hK => ?_
              clear hdep hfree hsz hops fr oq0 oq1 oq2 oq3 oq4 oq5 oq6 oq7 oq8 oq9 oq10 oq11 oq12 oq13 oq14 oq15 oq16 oq17 oq18 oq19
              go_simp
              refine (next_i hJ.1 2 (by omega) (by omega)).mono ?_
              rintro e w' ⟨⟨x, hx0, hx1, rfl⟩, hD, hO⟩
              exact hK (.int .i64 x) w' hO.grown (hJ.draw hD hO SPg.out) ⟨⟨x, hx0, by omega, rfl⟩, low_next hlow hXi (Nat.le_of_eq hO.size.symm)⟩
            | 12, _, hi, hXi, hP =>
              obtain rfl := Option.some.inj (oq12.symm.trans hi)
              have d43 : (∃ x : Int, 0 ≤ x ∧ x ≤ 1 ∧ (T.getD 43 undef) = .int .i64 x) ∧ (∃ u, X 4 = some u ∧ ∀ b, u.ownBlock = some b → b < W.heap.size) := (hdep 11 _ (odt (by kernel_rfl)) oq11).2
              obtain ⟨v43, e43, g43⟩ := slot_ex (T := T) (t := 43) (by omega)
              rw [g43] at d43
              clear g43
              obtain ⟨⟨x, hx0, hx1, rfl⟩, _⟩ := d43
              have hx : IntKind.i64.wrap (1 + x) = 1 + x := IntWalk.i64_in _ (by omega)
              refine grow_free rfl ?_
              refine step_rz (E := fun w' => W.grownBy w' (none)) (Φ := PhiAB g (w.heap.size + 1) va vb R m cR wn.heap.size (w.heap.size + 2) SA SB A B r 12) fun K hK => ?_
              clear hdep hfree hsz hops fr oq0 oq1 oq2 oq3 oq4 oq5 oq6 oq7 oq8 oq9 oq10 oq11 oq12 oq13 oq14 oq15 oq16 oq17 oq18 oq19
              go_simp
              clear hx
              exact hK (.int .i64 (1 + x)) _ (grown_refl _ _) hJ ⟨1 + x, by omega, by omega, rfl⟩
            | 13, _, hi, hXi, hP =>
              obtain rfl := Option.some.inj (oq13.symm.trans hi)
              have d41 : (∃ x : Int, -3 ≤ x ∧ x ≤ 8 ∧ (T.getD 41 undef) = .int .i64 x) := (hdep 9 _ (odt (by kernel_rfl)) oq9).2
              obtain ⟨v41, e41, g41⟩ := slot_ex (T := T) (t := 41) (by omega)
              rw [g41] at d41
              clear g41
              have d44 : (∃ x : Int, 1 ≤ x ∧ x ≤ 2 ∧ (T.getD 44 undef) = .int .i64 x) := (hdep 12 _ (odt (by kernel_rfl)) oq12).2
              obtain ⟨v44, e44, g44⟩ := slot_ex (T := T) (t := 44) (by omega)
              rw [g44] at d44
              clear g44
              have hlow : ∃ u, X 4 = some u ∧ ∀ b, u.ownBlock = some b → b < W.heap.size := (hdep 11 _ (odt (by kernel_rfl)) oq11).2.2
              obtain ⟨x, hx0, hx1, rfl⟩ := d41
              obtain ⟨y, hy0, hy1, rfl⟩ := d44
              refine grow_free rfl ?_
              refine step_rz (E := fun w' => W.grownBy w' (none)) (Φ := PhiAB g (w.heap.size + 1) va vb R m cR wn.heap.size (w.heap.size + 2) SA SB A B r 13) fun K hK => ?_
              clear hdep hfree hsz hops fr oq0 oq1 oq2 oq3 oq4 oq5 oq6 oq7 oq8 oq9 oq10 oq11 oq12 oq13 oq14 oq15 oq16 oq17 oq18 oq19
              go_simp
              refine (ratof_s x y (by omega) (by omega) (by omega)).mono ?_
              rintro e w' ⟨⟨v, q, rfl, hq, hs⟩, hb⟩
              exact hK v w' (grown_below hb) (hJ.step (grown_below hb) (.inl rfl) (fun b e => by cases e)) ⟨q, W.heap.size, w'.heap.size, hs, ⟨hJ.2.2.size, hb.size⟩, Nat.le_refl _, low_upd hlow hXi, hq⟩
            | 14, _, hi, hXi, hP =>
              obtain rfl := Option.some.inj (oq14.symm.trans hi)
              have d45 : PRat W wn.heap.size (fun lo => ∃ u, X 4 = some u ∧ ∀ b, u.ownBlock = some b → b < lo) (T.getD 45 undef) := (hdep 13 _ (odt (by kernel_rfl)) oq13).2
              obtain ⟨v45, e45, g45⟩ := slot_ex (T := T) (t := 45) (by omega)
              rw [g45] at d45
              clear g45
              refine grow_free rfl ?_
              refine step_rz (E := fun w' => W.grownBy w' (none)) (Φ := PhiAB g (w.heap.size + 1) va vb R m cR wn.heap.size (w.heap.size + 2) SA SB A B r 14) fun K hK => ?_
              clear hdep hfree hsz hops fr oq0 oq1 oq2 oq3 oq4 oq5 oq6 oq7 oq8 oq9 oq10 oq11 oq12 oq13 oq14 oq15 oq16 oq17 oq18 oq19
              obtain ⟨q, lo, hi, h1, h2, h3, h4, h5⟩ := d45
              obtain ⟨s2, P2, k2, O2, l2, rfl, _, _, _⟩ := isQ_open h5
              go_simp
              exact hK (.slice (some ⟨W.heap.size, 0, none⟩) 1 1) _ (grown_new _ _ _) (hJ.step (grown_new _ _ _) (.inl rfl) (fun b e => by cases e)) ⟨q, lo, hi, .agg #[.bool s2, .slice P2 (lim q.num.natAbs).length k2, .slice O2 (lim q.den).length l2], h1, h2, Nat.le_trans h3 (grown_new W _ none).size, low_upd h4 hXi, h5.rngG (grown_new _ _ none) h3 (fun b e => by cases e), W.heap.size, rfl, hJ.2.2.size, heap_alloc_new _ _⟩
            | 15, _, hi, hXi, hP =>
              obtain rfl := Option.some.inj (oq15.symm.trans hi)
              have d38 : (T.getD 38 undef) = vb := (hdep 6 _ (odt (by kernel_rfl)) oq6).2
              have e38 := slot_some (by omega) d38
              clear d38
              have d46 : PRow W wn.heap.size (fun lo => ∃ u, X 4 = some u ∧ ∀ b, u.ownBlock = some b → b < lo) (T.getD 46 undef) := (hdep 14 _ (odt (by kernel_rfl)) oq14).2
              obtain ⟨v46, e46, g46⟩ := slot_ex (T := T) (t := 46) (by omega)
              rw [g46] at d46
              clear g46
              refine grow_free rfl ?_
              refine step_rz (E := fun w' => W.grownBy w' (vb.ownBlock)) (Φ := PhiAB g (w.heap.size + 1) va vb R m cR wn.heap.size (w.heap.size + 2) SA SB A B r 15) fun K hK => ?_
              clear hdep hfree hsz hops fr oq0 oq1 oq2 oq3 oq4 oq5 oq6 oq7 oq8 oq9 oq10 oq11 oq12 oq13 oq14 oq15 oq16 oq17 oq18 oq19
              obtain ⟨q, lo, hi, e, h1, h2, h3, h4, h5, h, rfl, hh1, hh2⟩ := d46
              replace hP := And.right hP rfl
              obtain ⟨s2, P2, k2, O2, l2, rfl, _, _, _⟩ := isQ_open h5
              refine step_appG elR (.tmp 38) (.tmp 46) rfl IsR.stb (tmp_some e38) (tmp_some e46) (ev := .agg #[.bool s2, .slice P2 (lim q.num.natAbs).length k2, .slice O2 (lim q.den).length l2]) (y := raw q) hh2 (OwnS.wider IsR.stb (T := fun b => SB b ∨ rng lo hi b) hP (fun b h => .inl h) ?_) (IsR.stb.to h5 (same_imp fun b h => .inr h)) rfl (by intro u hu; simp [Value.cells] at hu; rcases hu with rfl | rfl | rfl <;> rfl) (by rw [rawV_len]; have := SM.out; omega) (Nat.le_trans SBs.out hJ.2.2.size) fun v' w' k1 k2 k3 => hK v' w' k2 (hJ.step k2 (.inr (.inr rfl)) SGB.out) ⟨q, lo, hi, h1, h2, Nat.le_trans h3 k2.size, low_upd h4 hXi, k1, k3.imp id fun h => ⟨_, h, h3, hJ.2.2.size⟩⟩
              have hov := OwnS.own_lt hP
              have hsb := Svbn.out
              intro b hb
              obtain ⟨es, k1, k2, k3, k4⟩ := hP
              rcases hb with hb | hb
              · exact k4 b hb
              · exact ⟨Nat.lt_of_lt_of_le hb.2 h3, fun e => by have := hsb b e.symm; have := hb.1; omega⟩
            | 16, _, hi, hXi, hP =>
              obtain rfl := Option.some.inj (oq16.symm.trans hi)
              have e7 : T[7]? = some (.pointer (some ⟨(w.heap.size + 1), 0, none⟩)) := hfree 7 (fr 7 (by kernel_rfl))
              refine grow_free rfl ?_
              refine step_rz (E := fun w' => W.grownBy w' (none)) (Φ := PhiAB g (w.heap.size + 1) va vb R m cR wn.heap.size (w.heap.size + 2) SA SB A B r 16) fun K hK => ?_
              clear hdep hfree hsz hops fr oq0 oq1 oq2 oq3 oq4 oq5 oq6 oq7 oq8 oq9 oq10 oq11 oq12 oq13 oq14 oq15 oq16 oq17 oq18 oq19
              go_simp
              exact hK (.pointer (some ⟨(w.heap.size + 1), 0, none⟩)) _ (grown_refl _ _) hJ rfl
            | i + 17, hin, hi, hXi, hP => exact absurd hin (by omega)
          case fin =>
            intro a W X hsz hdf hJ hfree hall
            obtain ⟨⟨l⟩, df⟩ := a
            replace hsz : l.length = 65 := hsz
            obtain ⟨fs, rfl⟩ := open65 hsz
            obtain rfl : df = [] := hdf
            have bs0 : fs 0 = .pointer (some ⟨g, 0, none⟩) := Option.some.inj (hfree 0 (fr 0 (by kernel_rfl)))
            have bs1 : fs 1 = .int .i64 (c : Int) := Option.some.inj (hfree 1 (fr 1 (by kernel_rfl)))
            have bs2 : fs 2 = .int .i64 (m0 : Int) := Option.some.inj (hfree 2 (fr 2 (by kernel_rfl)))
            have bs3 : fs 3 = undef := Option.some.inj (hfree 3 (fr 3 (by kernel_rfl)))
            have bs4 : fs 4 = undef := Option.some.inj (hfree 4 (fr 4 (by kernel_rfl)))
            have bs5 : fs 5 = undef := Option.some.inj (hfree 5 (fr 5 (by kernel_rfl)))
            have bs6 : fs 6 = .pointer (some ⟨w.heap.size, 0, none⟩) := Option.some.inj (hfree 6 (fr 6 (by kernel_rfl)))
            have bs7 : fs 7 = .pointer (some ⟨(w.heap.size + 1), 0, none⟩) := Option.some.inj (hfree 7 (fr 7 (by kernel_rfl)))
            have bs8 : fs 8 = .int .i64 (j : Int) := Option.some.inj (hfree 8 (fr 8 (by kernel_rfl)))
            have bs9 : fs 9 = .slice R m cR := Option.some.inj (hfree 9 (fr 9 (by kernel_rfl)))
            have bs11 : fs 11 = undef := Option.some.inj (hfree 11 (fr 11 (by kernel_rfl)))
            have bs50 : fs 50 = undef := Option.some.inj (hfree 50 (fr 50 (by kernel_rfl)))
            have bs51 : fs 51 = undef := Option.some.inj (hfree 51 (fr 51 (by kernel_rfl)))
            have bs52 : fs 52 = undef := Option.some.inj (hfree 52 (fr 52 (by kernel_rfl)))
            have bs53 : fs 53 = undef := Option.some.inj (hfree 53 (fr 53 (by kernel_rfl)))
            have bs54 : fs 54 = undef := Option.some.inj (hfree 54 (fr 54 (by kernel_rfl)))
            have bs55 : fs 55 = undef := Option.some.inj (hfree 55 (fr 55 (by kernel_rfl)))
            have bs56 : fs 56 = undef := Option.some.inj (hfree 56 (fr 56 (by kernel_rfl)))
            have bs57 : fs 57 = undef := Option.some.inj (hfree 57 (fr 57 (by kernel_rfl)))
            have bs58 : fs 58 = undef := Option.some.inj (hfree 58 (fr 58 (by kernel_rfl)))
            have bs59 : fs 59 = undef := Option.some.inj (hfree 59 (fr 59 (by kernel_rfl)))
            have bs60 : fs 60 = undef := Option.some.inj (hfree 60 (fr 60 (by kernel_rfl)))
            have bs61 : fs 61 = undef := Option.some.inj (hfree 61 (fr 61 (by kernel_rfl)))
            have bs62 : fs 62 = undef := Option.some.inj (hfree 62 (fr 62 (by kernel_rfl)))
            have bs63 : fs 63 = undef := Option.some.inj (hfree 63 (fr 63 (by kernel_rfl)))
            have bs64 : fs 64 = undef := Option.some.inj (hfree 64 (fr 64 (by kernel_rfl)))
            have x36 : X 4 = some (fs 36) := (hall 4 _ (by omega) oq4).1
            have q36 : (OwnS 1 29 IsV W (w.heap.size + 2) SA (fs 36) (rawM A ++ [rawV r]) ∧ ((fs 36).ownBlock = va.ownBlock ∨ ∃ b, (fs 36).ownBlock = some b ∧ wn.heap.size ≤ b)) := (hall 4 _ (by omega) oq4).2
            have x47 : X 15 = some (fs 47) := (hall 15 _ (by omega) oq15).1
            have q47 : PApp W (w.heap.size + 2) wn.heap.size (fun lo => ∃ u, X 4 = some u ∧ ∀ b, u.ownBlock = some b → b < lo) SB vb (rawV B) (fs 47) := (hall 15 _ (by omega) oq15).2
            have x48 : X 16 = some (fs 48) := (hall 16 _ (by omega) oq16).1
            have q48 : (fs 48) = .pointer (some ⟨(w.heap.size + 1), 0, none⟩) := (hall 16 _ (by omega) oq16).2
            clear x48
            clear hall hfree hsz
            rw [hops]
            clear hops fr oq0 oq1 oq2 oq3 oq4 oq5 oq6 oq7 oq8 oq9 oq10 oq11 oq12 oq13 oq14 oq15 oq16 oq17 oq18 oq19
            rw [bs0, bs1, bs2, bs3, bs4, bs5, bs6, bs7, bs8, bs9, bs11, bs50, bs51, bs52, bs53, bs54, bs55, bs56, bs57, bs58, bs59, bs60, bs61, bs62, bs63, bs64, q48]
            clear bs0 bs1 bs2 bs3 bs4 bs5 bs6 bs7 bs8 bs9 bs11 bs50 bs51 bs52 bs53 bs54 bs55 bs56 bs57 bs58 bs59 bs60 bs61 bs62 bs63 bs64 q48
            obtain ⟨t36, ht36⟩ : ∃ t, t = fs 36 := ⟨_, rfl⟩
            rw [← ht36] at q36 x36 ⊢
            clear ht36
            obtain ⟨t47, ht47⟩ : ∃ t, t = fs 47 := ⟨_, rfl⟩
            rw [← ht47] at q47 x47 ⊢
            clear ht47
            obtain ⟨c0, c1, c2⟩ := cells3 hJ.2.1
            obtain ⟨f0, f1, f2⟩ := free3 hJ.2.1
            obtain ⟨A6, k6, rfl⟩ := q36.1.slice
            obtain ⟨n7, A7, k7, rfl⟩ : ∃ n A k, t47 = .slice A n k := by
              obtain ⟨q0, lo, hi, p1, p2, p3, p4, p5, p6⟩ := q47
              exact ⟨_, p5.slice⟩
            have HJ := Lib.hid hJ
            have Q36 := Lib.hid q36
            have Q47 := Lib.hid q47
            have X36 := Lib.hid x36
            clear hJ q36 q47 x36 x47
            have hlt := Hlt.out
            show wpList _ _ _ [_, _, _] _ _
            go_wp2_with fail
            clear c0 c1 c2 f0 f1 f2
            go_roundw
            case rel =>
              obtain ⟨q0, lo, hi, p1, p2, p3, p4, p5, p6⟩ := Q47.out
              obtain ⟨x4, p4a, p4b⟩ := p4
              obtain rfl := Option.some.inj (X36.out.symm.trans p4a)
              have q6 := Q36.out
              have e9 : (rawM A ++ [rawV r]).length = (rawM A).length + 1 := by simp
              rw [e9] at q6 p4b
              obtain ⟨W1, hW1⟩ : ∃ W1, W1 = W.setCell ⟨w.heap.size + 1, 0, none⟩ (.slice A6 ((rawM A).length + 1) k6) := ⟨_, rfl⟩
              have g1 : W.grownBy W1 (some (w.heap.size + 1)) := by rw [hW1]; exact grown_set _ _ _ _
              obtain ⟨W2, hW2⟩ : ∃ W2, W2 = W1.setCell ⟨w.heap.size + 1, 1, none⟩ (.slice A7 n7 k7) := ⟨_, rfl⟩
              have g2 : W.grownBy W2 (some (w.heap.size + 1)) := by rw [hW2]; exact grown_trans g1 (grown_set _ _ _ _)
              have hRP : Row W2 (w.heap.size + 1) 31 [.slice A6 ((rawM A).length + 1) k6, .slice A7 n7 k7, .slice none 0 0] := by rw [hW2, hW1]; exact (HJ.out.2.1.set_ 0 _).set_ 1 _
              have hG : w.grownBy W2 (some g) := by
                rw [hW2, hW1]
                refine grown_setF (grown_setF (kept_grown GN.out HJ.out.2.2 (fun b e => ?_) (fun b e => ?_)) (Nat.le_succ _) _ _) (Nat.le_succ _) _ _
                · have := (OwnS.own_lt Hvo.out.ownA b e).1; omega
                · have := (OwnS.own_lt Hvo.out.ownB b e).1; omega
              have hZ2 : Row W2 w.heap.size 31 [.slice none 0 0, .slice none 0 0, .slice none 0 0] := (ZN.out.kept HJ.out.2.2 (fun e => by cases e; omega) (fun e => by have := (OwnS.own_lt Hvo.out.ownA _ e).1; omega) (fun e => by have := (OwnS.own_lt Hvo.out.ownB _ e).1; omega)).grownN g2 (fun b e => by cases e; omega)
              rw [← hW1, ← hW2]
              have hnw : ∀ b, ¬ (SB b ∨ rng lo hi b) ∨ w.heap.size + 2 ≤ b := fun b => by
                by_cases h : SB b ∨ rng lo hi b
                · refine .inr ?_
                  rcases h with h | h
                  · exact (SBx.out b h).1
                  · have := SBs.out; have := h.1; omega
                · exact .inl h
              refine ⟨j + 1, _, _, SA, fun b => SB b ∨ rng lo hi b, A ++ [r], B ++ [q0], by omega, by go_num, hG, HJ.out.1.grown g2 (by omega), hZ2, hRP, ?_⟩
              have e6 : rawM (A ++ [r]) = rawM A ++ [rawV r] := by simp [rawM]
              have e7 : rawV (B ++ [q0]) = rawV B ++ [raw q0] := by simp [rawV]
              have o6 := OwnS.own_lt q6.1
              have o7 := OwnS.own_lt p5
              refine ⟨by rw [List.length_append, Hvo.out.lA]; rfl, by rw [List.length_append, Hvo.out.lB]; rfl, fun row hrow => ?_, fun e he => ?_, by rw [e6]; exact q6.1.grown IsV.stb g2 fun b e => ⟨fun e' => by have := (o6 b e').1; cases e; omega, fun h => by have := (SAx.out b h).1; cases e; omega⟩,
                by rw [e7]; exact p5.grown IsR.stb g2 fun b e => ⟨fun e' => by have := (o7 b e').1; cases e; omega, fun h => by rcases hnw b with h' | h'; exact h' h; cases e; omega⟩, fun b hb => ⟨(SAx.out b hb).1, ?_⟩, fun b hb => ⟨?_, ?_⟩, fun b hb => ?_⟩
              · rcases List.mem_append.1 hrow with h | h
                · exact Hvo.out.rows row h
                · rw [List.mem_singleton] at h
                  rw [h]
                  exact ⟨hr.out.1, hr.out.2.1⟩
              · rcases List.mem_append.1 he with h | h
                · exact Hvo.out.szB e h
                · rw [List.mem_singleton] at h
                  rw [h]
                  exact p1
              · have hx := SAx.out b hb
                rcases p6 with h | ⟨b', h, h8, h9⟩
                · rw [h]; exact hx.2.2.2
                · rw [h]; intro e; cases e; omega
              · rcases hnw b with h | h
                · exact absurd hb h
                · exact h
              · rcases q6.2 with h | ⟨b', h, h8⟩
                · rw [h]
                  rcases hb with hb | hb
                  · exact (SBx.out b hb).2.2.1
                  · intro e
                    have := (OwnS.own_lt OA.out b e).2
                    have := hb.1
                    omega
                · rw [h]
                  intro e
                  cases e
                  rcases hb with hb | hb
                  · have := (SBx.out _ hb).2.1; omega
                  · have := p4b _ h; have := hb.1; omega
              · rcases p6 with h | ⟨b', h, h8, h9⟩
                · rw [h]
                  rcases q6.2 with h' | ⟨c', h', h8'⟩
                  · rw [h'] at hb; exact Hvo.out.ne b hb
                  · rw [h'] at hb
                    cases hb
                    intro e
                    have := Svbn.out _ e
                    omega
                · rw [h]
                  intro e
                  cases e
                  have := p4b _ hb
                  omega
            case measure => simp [intOf]; omega
    · obtain rfl : j = m0 := by have := Hj.out; omega
      have hvA := OwnS.own_lt hout.out.ownA
      have hvB := OwnS.own_lt hout.out.ownB
      obtain ⟨RA, cA, rfl⟩ := hout.out.ownA.slice
      obtain ⟨RB, cB, rfl⟩ := hout.out.ownB.slice
      have hMA : IsM wo (rng (w.heap.size + 2) wo.heap.size) (.slice RA (rawM A).length cA) (rawM A) := OwnS.isS IsV.stb (T := rng (w.heap.size + 2) wo.heap.size) hout.out.ownA (fun b hb => ⟨(hout.out.sA b hb).1, by obtain ⟨_, _, _, _, h4⟩ := hout.out.ownA; exact (h4 b hb).1⟩) (fun b h1 h2 => ⟨h1, h2⟩)
      have hVB : IsV wo (rng (w.heap.size + 2) wo.heap.size) (.slice RB (rawV B).length cB) (rawV B) := OwnS.isS IsR.stb (T := rng (w.heap.size + 2) wo.heap.size) hout.out.ownB (fun b hb => ⟨(hout.out.sB b hb).1, by obtain ⟨_, _, _, _, h4⟩ := hout.out.ownB; exact (h4 b hb).1⟩) (fun b h1 h2 => ⟨h1, h2⟩)
      have HMA := Lib.hid hMA
      have HVB := Lib.hid hVB
      have Hvo := Lib.hid hout.out
      obtain ⟨la, hla⟩ : ∃ x, x = (rawM A).length := ⟨_, rfl⟩
      obtain ⟨lb, hlb⟩ : ∃ x, x = (rawV B).length := ⟨_, rfl⟩
      rw [← hla] at HMA HP
      rw [← hlb] at HVB HP
      have Hla := Lib.hid hla
      have Hlb := Lib.hid hlb
      clear hout hvA hvB hMA hVB hla hlb
      go_wp2_with fail
      go_loopw [11] (fun k wr => ∃ (c : Nat) (vc : Value) (SC : Nat → Prop) (C : List Rat), c ≤ n ∧ k = .int .i64 (c : Int) ∧ w.grownBy wr (some g) ∧ IsD wr g l ∧ Row wr w.heap.size 31 [.slice none 0 0, .slice none 0 0, .slice none 0 0] ∧ Row wr (w.heap.size + 1) 31 [.slice RA la cA, .slice RB lb cB, vc] ∧ OwnS 3 50 IsR wr wo.heap.size SC vc (rawV C) ∧
        Hid (C.length = c ∧ (∀ e ∈ C, Sz e 3) ∧ (∀ b, SC b → wo.heap.size ≤ b) ∧ IsM wr (rng (w.heap.size + 2) wo.heap.size) (.slice RA la cA) (rawM A) ∧ IsV wr (rng (w.heap.size + 2) wo.heap.size) (.slice RB lb cB) (rawV B) ∧ wo.heap.size ≤ wr.heap.size)) (fun k _ => n - (intOf k).toNat)
      case atStart => exact ⟨0, _, fun _ => False, [], Nat.zero_le _, rfl, Hgr.out, HD.out, HZ.out, HP.out, OwnS.nil (fun b h => h.elim), rfl, (fun _ h => by cases h), (fun b h => h.elim), HMA.out, HVB.out, Nat.le_refl _⟩
      case round =>
        obtain ⟨c, vc, SC, C, hc, rfl, hgr, hD, hZ, hP, hown, hr⟩ := hrel
        obtain ⟨wn, rfl⟩ : ∃ x, x = wr := ⟨_, rfl⟩
        have GN := Lib.hid hgr
        have DN := Lib.hid hD
        have ZN := Lib.hid hZ
        have PN := Lib.hid hP
        have OC := Lib.hid hown
        have hr := hr
        clear hgr hD hZ hP hown
        rcases Nat.lt_or_ge c n with hcn | hcn
        · have hvC := OwnS.own_lt OC.out
          have hSCx : ∀ b, SC b → wo.heap.size ≤ b ∧ b < wn.heap.size ∧ vc.ownBlock ≠ some b := fun b hb => by
            obtain ⟨es, k1, k2, k3, k4⟩ := OC.out
            exact ⟨hr.out.2.2.1 b hb, (k4 b hb).1, fun e => (k4 b hb).2 e.symm⟩
          have SCx := Lib.hid hSCx
          have SPg : Hid ((w.heap.size + 1) ≠ g) := by rw [Hid]; omega
          have SBs : Hid (wo.heap.size ≤ wn.heap.size) := hr.out.2.2.2.2.2
          have SM : Hid (C.length < 100) := by rw [Hid, hr.out.1]; omega
          have SGC : Hid (∀ b, vc.ownBlock = some b → g < b ∧ (w.heap.size + 1) ≠ b) := fun b e => by have := (hvC b e).1; have := Hsz.out; omega
          have Svcn : Hid (∀ b, vc.ownBlock = some b → b < wn.heap.size) := fun b e => (hvC b e).2
          have Sbk : Hid (∀ k b, blkC g vc k = some b → b < wn.heap.size ∧ (k ≠ 7 → vc.ownBlock ≠ some b ∧ ¬ SC b)) := by
            intro k b e
            have hz1 := Hsz.out
            have hz2 := SBs.out
            unfold blkC at e
            split at e
            · cases e
              exact ⟨by omega, fun _ => ⟨fun h => by have := (hvC _ h).1; omega, fun h => by have := (hSCx _ h).1; omega⟩⟩
            · exact ⟨(hvC b e).2, fun h => absurd rfl h⟩
            · cases e
          clear hvC hSCx
          go_wp2_with fail
          refine region_abs fun ops hops => ?_
          have oq0 := op_at (j := 0) hops rfl
          have oq1 := op_at (j := 1) hops rfl
          have oq2 := op_at (j := 2) hops rfl
          have oq3 := op_at (j := 3) hops rfl
          have oq4 := op_at (j := 4) hops rfl
          have oq5 := op_at (j := 5) hops rfl
          have oq6 := op_at (j := 6) hops rfl
          have oq7 := op_at (j := 7) hops rfl
          have oq8 := op_at (j := 8) hops rfl
          have oq9 := op_at (j := 9) hops rfl
          have fr := fun t h => slotZ_abs (n := 8) hops t h
          refine wp_region_rz 8 (PhiC g (w.heap.size + 1) vc wn.heap.size wo.heap.size SC C) (PreC wo.heap.size vc SC C) (JD g (w.heap.size + 1) l [.slice RA la cA, .slice RB lb cB, vc] vc.ownBlock none wn) (fun k w w' => w.grownBy w' (blkC g vc k)) (by kernel_rfl) ?hJ0 ?hP0 ?hPs ?hst (by rw [hops]; kernel_rfl) (by rw [hops]; kernel_rfl) ?step ?fin
          case hJ0 => exact ⟨DN.out.grownN (grown_below (row := none) (below_drew _)) (fun b e => by cases e), PN.out, (Kept.refl _ _ _ _).step (grown_below (row := none) (below_drew _)) (.inl rfl)⟩
          case hP0 => exact fun i _ => OC.out
          case hPs =>
            intro i k wa wb hik h hJ hE e7
            subst e7
            exact OwnS.grown IsR.stb (h rfl) hE fun b e => ((Sbk.out k b e).2 (Ne.symm hik))
          case hst => exact fun i k v wa wb X u hik hX h hJ hE => phiC_st Sbk.out i k v wa wb X u hik hX h hE
          case step =>
            intro i o hin hi a W X hsz hdf hJ hP hXi hfree hdep
            obtain ⟨T, df⟩ := a
            replace hsz : T.size = 65 := hsz
            obtain rfl : df = [] := hdf
            match i, hin, hi, hXi, hP with
            | 0, _, hi, hXi, hP =>
              obtain rfl := Option.some.inj (oq0.symm.trans hi)
              have e7 : T[7]? = some (.pointer (some ⟨(w.heap.size + 1), 0, none⟩)) := hfree 7 (fr 7 (by kernel_rfl))
              refine grow_free rfl ?_
              refine step_rz (E := fun w' => W.grownBy w' (none)) (Φ := PhiC g (w.heap.size + 1) vc wn.heap.size wo.heap.size SC C 0) fun K hK => ?_
              clear hdep hfree hsz hops fr oq0 oq1 oq2 oq3 oq4 oq5 oq6 oq7 oq8 oq9
              go_simp
              exact hK (.pointer (some ⟨(w.heap.size + 1), 2, none⟩)) _ (grown_refl _ _) hJ rfl
            | 1, _, hi, hXi, hP =>
              obtain rfl := Option.some.inj (oq1.symm.trans hi)
              have d55 : (T.getD 55 undef) = .pointer (some ⟨(w.heap.size + 1), 2, none⟩) := (hdep 0 _ (odt (by kernel_rfl)) oq0).2
              have e55 := slot_some (by omega) d55
              clear d55
              obtain ⟨c0, c1, c2⟩ := cells3 hJ.2.1
              refine grow_free rfl ?_
              refine step_rz (E := fun w' => W.grownBy w' (none)) (Φ := PhiC g (w.heap.size + 1) vc wn.heap.size wo.heap.size SC C 1) fun K hK => ?_
              clear hdep hfree hsz hops fr oq0 oq1 oq2 oq3 oq4 oq5 oq6 oq7 oq8 oq9
              go_simp
              exact hK (vc) _ (grown_refl _ _) hJ rfl
            | 2, _, hi, hXi, hP =>
              obtain rfl := Option.some.inj (oq2.symm.trans hi)
              have e0 : T[0]? = some (.pointer (some ⟨g, 0, none⟩)) := hfree 0 (fr 0 (by kernel_rfl))
              refine grow_free rfl ?_
              refine step_rz (E := fun w' => W.grownBy w' (none)) (Φ := PhiC g (w.heap.size + 1) vc wn.heap.size wo.heap.size SC C 2) fun K hK => ?_
              clear hdep hfree hsz hops fr oq0 oq1 oq2 oq3 oq4 oq5 oq6 oq7 oq8 oq9
              go_simp
              exact hK (.pointer (some ⟨g, 0, none⟩)) _ (grown_refl _ _) hJ rfl
            | 3, _, hi, hXi, hP =>
              obtain rfl := Option.some.inj (oq3.symm.trans hi)
              have d57 : (T.getD 57 undef) = .pointer (some ⟨g, 0, none⟩) := (hdep 2 _ (odt (by kernel_rfl)) oq2).2
              have e57 := slot_some (by omega) d57
              clear d57
              refine grow_free rfl ?_
              refine step_rz (E := fun w' => W.grownBy w' (some g)) (Φ := PhiC g (w.heap.size + 1) vc wn.heap.size wo.heap.size SC C 3) fun K hK => ?_
              clear hdep hfree hsz hops fr oq0 oq1 oq2 oq3 oq4 oq5 oq6 oq7 oq8 oq9
              go_simp
              refine (next_i hJ.1 9 (by omega) (by omega)).mono ?_
              rintro e w' ⟨⟨x, hx0, hx1, rfl⟩, hD, hO⟩
              exact hK (.int .i64 x) w' hO.grown (hJ.draw hD hO SPg.out) ⟨x, hx0, by omega, rfl⟩
            | 4, _, hi, hXi, hP =>
              obtain rfl := Option.some.inj (oq4.symm.trans hi)
              have d58 : (∃ x : Int, 0 ≤ x ∧ x ≤ 8 ∧ (T.getD 58 undef) = .int .i64 x) := (hdep 3 _ (odt (by kernel_rfl)) oq3).2
              obtain ⟨v58, e58, g58⟩ := slot_ex (T := T) (t := 58) (by omega)
              rw [g58] at d58
              clear g58
              obtain ⟨x, hx0, hx1, rfl⟩ := d58
              have hx : IntKind.i64.wrap (x - 5) = x - 5 := IntWalk.i64_in _ (by omega)
              refine grow_free rfl ?_
              refine step_rz (E := fun w' => W.grownBy w' (none)) (Φ := PhiC g (w.heap.size + 1) vc wn.heap.size wo.heap.size SC C 4) fun K hK => ?_
              clear hdep hfree hsz hops fr oq0 oq1 oq2 oq3 oq4 oq5 oq6 oq7 oq8 oq9
              go_simp
              clear hx
              exact hK (.int .i64 (x - 5)) _ (grown_refl _ _) hJ ⟨x - 5, by omega, by omega, rfl⟩
            | 5, _, hi, hXi, hP =>
              obtain rfl := Option.some.inj (oq5.symm.trans hi)
              have d59 : (∃ x : Int, -5 ≤ x ∧ x ≤ 3 ∧ (T.getD 59 undef) = .int .i64 x) := (hdep 4 _ (odt (by kernel_rfl)) oq4).2
              obtain ⟨v59, e59, g59⟩ := slot_ex (T := T) (t := 59) (by omega)
              rw [g59] at d59
              clear g59
              obtain ⟨x, hx0, hx1, rfl⟩ := d59
              refine grow_free rfl ?_
              refine step_rz (E := fun w' => W.grownBy w' (none)) (Φ := PhiC g (w.heap.size + 1) vc wn.heap.size wo.heap.size SC C 5) fun K hK => ?_
              clear hdep hfree hsz hops fr oq0 oq1 oq2 oq3 oq4 oq5 oq6 oq7 oq8 oq9
              go_simp
              refine (ratof_s x 1 (by omega) (by omega) (by omega)).mono ?_
              rintro e w' ⟨⟨v, q, rfl, hq, hs⟩, hb⟩
              exact hK v w' (grown_below hb) (hJ.step (grown_below hb) (.inl rfl) (fun b e => by cases e)) ⟨q, W.heap.size, w'.heap.size, hs, ⟨hJ.2.2.size, hb.size⟩, Nat.le_refl _, trivial, hq⟩
            | 6, _, hi, hXi, hP =>
              obtain rfl := Option.some.inj (oq6.symm.trans hi)
              have d60 : PRat W wn.heap.size (fun _ => True) (T.getD 60 undef) := (hdep 5 _ (odt (by kernel_rfl)) oq5).2
              obtain ⟨v60, e60, g60⟩ := slot_ex (T := T) (t := 60) (by omega)
              rw [g60] at d60
              clear g60
              refine grow_free rfl ?_
              refine step_rz (E := fun w' => W.grownBy w' (none)) (Φ := PhiC g (w.heap.size + 1) vc wn.heap.size wo.heap.size SC C 6) fun K hK => ?_
              clear hdep hfree hsz hops fr oq0 oq1 oq2 oq3 oq4 oq5 oq6 oq7 oq8 oq9
              obtain ⟨q, lo, hi, h1, h2, h3, h4, h5⟩ := d60
              obtain ⟨s2, P2, k2, O2, l2, rfl, _, _, _⟩ := isQ_open h5
              go_simp
              exact hK (.slice (some ⟨W.heap.size, 0, none⟩) 1 1) _ (grown_new _ _ _) (hJ.step (grown_new _ _ _) (.inl rfl) (fun b e => by cases e)) ⟨q, lo, hi, .agg #[.bool s2, .slice P2 (lim q.num.natAbs).length k2, .slice O2 (lim q.den).length l2], h1, h2, Nat.le_trans h3 (grown_new W _ none).size, trivial, h5.rngG (grown_new _ _ none) h3 (fun b e => by cases e), W.heap.size, rfl, hJ.2.2.size, heap_alloc_new _ _⟩
            | 7, _, hi, hXi, hP =>
              obtain rfl := Option.some.inj (oq7.symm.trans hi)
              have d56 : (T.getD 56 undef) = vc := (hdep 1 _ (odt (by kernel_rfl)) oq1).2
              have e56 := slot_some (by omega) d56
              clear d56
              have d61 : PRow W wn.heap.size (fun _ => True) (T.getD 61 undef) := (hdep 6 _ (odt (by kernel_rfl)) oq6).2
              obtain ⟨v61, e61, g61⟩ := slot_ex (T := T) (t := 61) (by omega)
              rw [g61] at d61
              clear g61
              refine grow_free rfl ?_
              refine step_rz (E := fun w' => W.grownBy w' (vc.ownBlock)) (Φ := PhiC g (w.heap.size + 1) vc wn.heap.size wo.heap.size SC C 7) fun K hK => ?_
              clear hdep hfree hsz hops fr oq0 oq1 oq2 oq3 oq4 oq5 oq6 oq7 oq8 oq9
              obtain ⟨q, lo, hi, e, h1, h2, h3, h4, h5, h, rfl, hh1, hh2⟩ := d61
              replace hP := hP rfl
              obtain ⟨s2, P2, k2, O2, l2, rfl, _, _, _⟩ := isQ_open h5
              refine step_appG elR (.tmp 56) (.tmp 61) rfl IsR.stb (tmp_some e56) (tmp_some e61) (ev := .agg #[.bool s2, .slice P2 (lim q.num.natAbs).length k2, .slice O2 (lim q.den).length l2]) (y := raw q) hh2 (OwnS.wider IsR.stb (T := fun b => SC b ∨ rng lo hi b) hP (fun b h => .inl h) ?_) (IsR.stb.to h5 (same_imp fun b h => .inr h)) rfl (by intro u hu; simp [Value.cells] at hu; rcases hu with rfl | rfl | rfl <;> rfl) (by rw [rawV_len]; have := SM.out; omega) (Nat.le_trans SBs.out hJ.2.2.size) fun v' w' k1 k2 k3 => hK v' w' k2 (hJ.step k2 (.inr (.inl rfl)) SGC.out) ⟨q, lo, hi, h1, h2, Nat.le_trans h3 k2.size, trivial, k1, k3.imp id fun h => ⟨_, h, h3, hJ.2.2.size⟩⟩
              have hov := OwnS.own_lt hP
              have hsb := Svcn.out
              intro b hb
              obtain ⟨es, k1, k2, k3, k4⟩ := hP
              rcases hb with hb | hb
              · exact k4 b hb
              · exact ⟨Nat.lt_of_lt_of_le hb.2 h3, fun e => by have := hsb b e.symm; have := hb.1; omega⟩
            | i + 8, hin, hi, hXi, hP => exact absurd hin (by omega)
          case fin =>
            intro a W X hsz hdf hJ hfree hall
            obtain ⟨⟨l⟩, df⟩ := a
            replace hsz : l.length = 65 := hsz
            obtain ⟨fs, rfl⟩ := open65 hsz
            obtain rfl : df = [] := hdf
            have bs0 : fs 0 = .pointer (some ⟨g, 0, none⟩) := Option.some.inj (hfree 0 (fr 0 (by kernel_rfl)))
            have bs1 : fs 1 = .int .i64 (n : Int) := Option.some.inj (hfree 1 (fr 1 (by kernel_rfl)))
            have bs2 : fs 2 = .int .i64 (j : Int) := Option.some.inj (hfree 2 (fr 2 (by kernel_rfl)))
            have bs3 : fs 3 = undef := Option.some.inj (hfree 3 (fr 3 (by kernel_rfl)))
            have bs4 : fs 4 = undef := Option.some.inj (hfree 4 (fr 4 (by kernel_rfl)))
            have bs5 : fs 5 = undef := Option.some.inj (hfree 5 (fr 5 (by kernel_rfl)))
            have bs6 : fs 6 = .pointer (some ⟨w.heap.size, 0, none⟩) := Option.some.inj (hfree 6 (fr 6 (by kernel_rfl)))
            have bs7 : fs 7 = .pointer (some ⟨(w.heap.size + 1), 0, none⟩) := Option.some.inj (hfree 7 (fr 7 (by kernel_rfl)))
            have bs8 : fs 8 = .int .i64 (j : Int) := Option.some.inj (hfree 8 (fr 8 (by kernel_rfl)))
            have bs9 : fs 9 = u9 := Option.some.inj (hfree 9 (fr 9 (by kernel_rfl)))
            have bs10 : fs 10 = u10 := Option.some.inj (hfree 10 (fr 10 (by kernel_rfl)))
            have bs11 : fs 11 = .int .i64 (c : Int) := Option.some.inj (hfree 11 (fr 11 (by kernel_rfl)))
            have bs12 : fs 12 = .int .i64 (j : Int) := Option.some.inj (hfree 12 (fr 12 (by kernel_rfl)))
            have bs13 : fs 13 = .int .i64 (j : Int) := Option.some.inj (hfree 13 (fr 13 (by kernel_rfl)))
            have bs14 : fs 14 = .bool false := Option.some.inj (hfree 14 (fr 14 (by kernel_rfl)))
            have bs15 : fs 15 = u15 := Option.some.inj (hfree 15 (fr 15 (by kernel_rfl)))
            have bs16 : fs 16 = u16 := Option.some.inj (hfree 16 (fr 16 (by kernel_rfl)))
            have bs17 : fs 17 = u17 := Option.some.inj (hfree 17 (fr 17 (by kernel_rfl)))
            have bs18 : fs 18 = u18 := Option.some.inj (hfree 18 (fr 18 (by kernel_rfl)))
            have bs19 : fs 19 = u19 := Option.some.inj (hfree 19 (fr 19 (by kernel_rfl)))
            have bs20 : fs 20 = u20 := Option.some.inj (hfree 20 (fr 20 (by kernel_rfl)))
            have bs21 : fs 21 = u21 := Option.some.inj (hfree 21 (fr 21 (by kernel_rfl)))
            have bs22 : fs 22 = u22 := Option.some.inj (hfree 22 (fr 22 (by kernel_rfl)))
            have bs23 : fs 23 = u23 := Option.some.inj (hfree 23 (fr 23 (by kernel_rfl)))
            have bs24 : fs 24 = u24 := Option.some.inj (hfree 24 (fr 24 (by kernel_rfl)))
            have bs25 : fs 25 = u25 := Option.some.inj (hfree 25 (fr 25 (by kernel_rfl)))
            have bs26 : fs 26 = u26 := Option.some.inj (hfree 26 (fr 26 (by kernel_rfl)))
            have bs27 : fs 27 = u27 := Option.some.inj (hfree 27 (fr 27 (by kernel_rfl)))
            have bs28 : fs 28 = u28 := Option.some.inj (hfree 28 (fr 28 (by kernel_rfl)))
            have bs29 : fs 29 = u29 := Option.some.inj (hfree 29 (fr 29 (by kernel_rfl)))
            have bs30 : fs 30 = u30 := Option.some.inj (hfree 30 (fr 30 (by kernel_rfl)))
            have bs31 : fs 31 = u31 := Option.some.inj (hfree 31 (fr 31 (by kernel_rfl)))
            have bs32 : fs 32 = u32 := Option.some.inj (hfree 32 (fr 32 (by kernel_rfl)))
            have bs33 : fs 33 = u33 := Option.some.inj (hfree 33 (fr 33 (by kernel_rfl)))
            have bs34 : fs 34 = u34 := Option.some.inj (hfree 34 (fr 34 (by kernel_rfl)))
            have bs35 : fs 35 = u35 := Option.some.inj (hfree 35 (fr 35 (by kernel_rfl)))
            have bs36 : fs 36 = u36 := Option.some.inj (hfree 36 (fr 36 (by kernel_rfl)))
            have bs37 : fs 37 = u37 := Option.some.inj (hfree 37 (fr 37 (by kernel_rfl)))
            have bs38 : fs 38 = u38 := Option.some.inj (hfree 38 (fr 38 (by kernel_rfl)))
            have bs39 : fs 39 = u39 := Option.some.inj (hfree 39 (fr 39 (by kernel_rfl)))
            have bs40 : fs 40 = u40 := Option.some.inj (hfree 40 (fr 40 (by kernel_rfl)))
            have bs41 : fs 41 = u41 := Option.some.inj (hfree 41 (fr 41 (by kernel_rfl)))
            have bs42 : fs 42 = u42 := Option.some.inj (hfree 42 (fr 42 (by kernel_rfl)))
            have bs43 : fs 43 = u43 := Option.some.inj (hfree 43 (fr 43 (by kernel_rfl)))
            have bs44 : fs 44 = u44 := Option.some.inj (hfree 44 (fr 44 (by kernel_rfl)))
            have bs45 : fs 45 = u45 := Option.some.inj (hfree 45 (fr 45 (by kernel_rfl)))
            have bs46 : fs 46 = u46 := Option.some.inj (hfree 46 (fr 46 (by kernel_rfl)))
            have bs47 : fs 47 = u47 := Option.some.inj (hfree 47 (fr 47 (by kernel_rfl)))
            have bs48 : fs 48 = u48 := Option.some.inj (hfree 48 (fr 48 (by kernel_rfl)))
            have bs49 : fs 49 = u49 := Option.some.inj (hfree 49 (fr 49 (by kernel_rfl)))
            have bs64 : fs 64 = undef := Option.some.inj (hfree 64 (fr 64 (by kernel_rfl)))
            have x56 : X 1 = some (fs 56) := (hall 1 _ (by omega) oq1).1
            have q56 : (fs 56) = vc := (hall 1 _ (by omega) oq1).2
            clear x56
            have x62 : X 7 = some (fs 62) := (hall 7 _ (by omega) oq7).1
            have q62 : PApp W wo.heap.size wn.heap.size (fun _ => True) SC vc (rawV C) (fs 62) := (hall 7 _ (by omega) oq7).2
            clear hall hfree hsz
            rw [hops]
            clear hops fr oq0 oq1 oq2 oq3 oq4 oq5 oq6 oq7 oq8 oq9
            rw [bs0, bs1, bs2, bs3, bs4, bs5, bs6, bs7, bs8, bs9, bs10, bs11, bs12, bs13, bs14, bs15, bs16, bs17, bs18, bs19, bs20, bs21, bs22, bs23, bs24, bs25, bs26, bs27, bs28, bs29, bs30, bs31, bs32, bs33, bs34, bs35, bs36, bs37, bs38, bs39, bs40, bs41, bs42, bs43, bs44, bs45, bs46, bs47, bs48, bs49, bs64, q56]
            clear bs0 bs1 bs2 bs3 bs4 bs5 bs6 bs7 bs8 bs9 bs10 bs11 bs12 bs13 bs14 bs15 bs16 bs17 bs18 bs19 bs20 bs21 bs22 bs23 bs24 bs25 bs26 bs27 bs28 bs29 bs30 bs31 bs32 bs33 bs34 bs35 bs36 bs37 bs38 bs39 bs40 bs41 bs42 bs43 bs44 bs45 bs46 bs47 bs48 bs49 bs64 q56
            obtain ⟨t62, ht62⟩ : ∃ t, t = fs 62 := ⟨_, rfl⟩
            rw [← ht62] at q62 x62 ⊢
            clear ht62
            obtain ⟨c0, c1, c2⟩ := cells3 hJ.2.1
            obtain ⟨f0, f1, f2⟩ := free3 hJ.2.1
            obtain ⟨n7, A7, k7, rfl⟩ : ∃ n A k, t62 = .slice A n k := by
              obtain ⟨q0, lo, hi, p1, p2, p3, p4, p5, p6⟩ := q62
              exact ⟨_, p5.slice⟩
            have HJ := Lib.hid hJ
            have Q62 := Lib.hid q62
            clear hJ q62 x62
            show wpList _ _ _ [_, _] _ _
            go_wp2_with fail
            clear c0 c1 c2 f0 f1 f2
            go_roundw
            case rel =>
              obtain ⟨q0, lo, hi, p1, p2, p3, p4, p5, p6⟩ := Q62.out
              obtain ⟨W2, hW2⟩ : ∃ W2, W2 = W.setCell ⟨w.heap.size + 1, 2, none⟩ (.slice A7 n7 k7) := ⟨_, rfl⟩
              have g2 : W.grownBy W2 (some (w.heap.size + 1)) := by rw [hW2]; exact grown_set _ _ _ _
              have hRP : Row W2 (w.heap.size + 1) 31 [.slice RA la cA, .slice RB lb cB, .slice A7 n7 k7] := by rw [hW2]; exact HJ.out.2.1.set_ 2 _
              have hvC := OwnS.own_lt OC.out
              have hz1 := Hsz.out
              have hz2 := SBs.out
              have hG : w.grownBy W2 (some g) := by
                rw [hW2]
                exact grown_setF (kept_grown GN.out HJ.out.2.2 (fun b e => by have := (hvC b e).1; omega) (fun b e => by cases e)) (Nat.le_succ _) _ _
              have hZ2 : Row W2 w.heap.size 31 [.slice none 0 0, .slice none 0 0, .slice none 0 0] := (ZN.out.kept HJ.out.2.2 (fun e => by cases e; omega) (fun e => by have := (hvC _ e).1; omega) (fun e => by cases e)).grownN g2 (fun b e => by cases e; omega)
              have hS1 : Same (rng (w.heap.size + 2) wo.heap.size) (rng (w.heap.size + 2) wo.heap.size) wn W := kept_same HJ.out.2.2 fun b hb => ⟨by have := hb.2; omega, fun e => by cases e; have := hb.1; omega, fun e => by have := (hvC b e.symm).1; have := hb.2; omega, by simp⟩
              have hS2 : Same (rng (w.heap.size + 2) wo.heap.size) (rng (w.heap.size + 2) wo.heap.size) W W2 := same_grownS g2 fun b hb => ⟨by have := hb.2; have := HJ.out.2.2.size; omega, fun e => by cases e; have := hb.1; omega⟩
              rw [← hW2]
              have o7 := OwnS.own_lt p5
              have hnw : ∀ b, (SC b ∨ rng lo hi b) → wo.heap.size ≤ b := fun b h => by
                rcases h with h | h
                · exact (SCx.out b h).1
                · have := h.1; omega
              have e7 : rawV (C ++ [q0]) = rawV C ++ [raw q0] := by simp [rawV]
              refine ⟨c + 1, _, fun b => SC b ∨ rng lo hi b, C ++ [q0], by omega, by go_num, hG, HJ.out.1.grown g2 (by omega), hZ2, hRP, ?_, by rw [List.length_append, hr.out.1]; rfl, fun e he => ?_, hnw, IsM.stb.to (IsM.stb.to hr.out.2.2.2.1 hS1) hS2, IsV.stb.to (IsV.stb.to hr.out.2.2.2.2.1 hS1) hS2, by have := HJ.out.2.2.size; have := g2.size; omega⟩
              · rw [e7]
                exact p5.grown IsR.stb g2 fun b e => ⟨fun e' => by have := (o7 b e').1; cases e; omega, fun h => by have := hnw b h; cases e; omega⟩
              · rcases List.mem_append.1 he with h | h
                · exact hr.out.2.1 e h
                · rw [List.mem_singleton] at h
                  rw [h]
                  exact p1
            case measure => simp [intOf]; omega
        · obtain rfl : c = n := by omega
          obtain ⟨RC, cC, rfl⟩ := OC.out.slice
          have hVC : IsV wn (rng wo.heap.size wn.heap.size) (.slice RC (rawV C).length cC) (rawV C) := OwnS.isS IsR.stb (T := rng wo.heap.size wn.heap.size) OC.out (fun b hb => ⟨hr.out.2.2.1 b hb, by obtain ⟨_, _, _, _, h4⟩ := OC.out; exact (h4 b hb).1⟩) (fun b h1 h2 => ⟨h1, h2⟩)
          have HVC := Lib.hid hVC
          obtain ⟨lc, hlc⟩ : ∃ x, x = (rawV C).length := ⟨_, rfl⟩
          rw [← hlc] at HVC PN
          have Hlc := Lib.hid hlc
          clear hVC hlc
          obtain ⟨c0, c1, c2⟩ := cells3 PN.out
          obtain ⟨z0, z1, z2⟩ := cells3 ZN.out
          obtain ⟨f0, f1, f2⟩ := free3 ZN.out
          have hlt := hcn
          go_wp2_with fail
          refine ret_prog Tryd.results8 rfl rfl (Row.put3 ZN.out _ _ _) ?_
          obtain ⟨W2, hW2⟩ : ∃ W2, W2 = put3 wn w.heap.size (.slice RA la cA) (.slice RB lb cB) (.slice RC lc cC) := ⟨_, rfl⟩
          have hz1 := Hsz.out
          have hz2 := hr.out.2.2.2.2.2
          have hsz2 : W2.heap.size = wn.heap.size := by rw [hW2, size_put3]
          have hsame : ∀ a b : Nat, w.heap.size + 2 ≤ a → b ≤ wn.heap.size → Same (rng a b) (New w.heap.size W2) wn W2 := fun a b ha hb => by
            rw [hW2]
            exact same_put3 fun x hx => ⟨by have := hx.1; omega, by have := hx.1; omega, by rw [← hW2, hsz2]; have := hx.2; omega⟩
          have hG : w.grownBy W2 (some g) := by
            rw [hW2]
            exact grown_setF (grown_setF (grown_setF GN.out (Nat.le_refl _) _ _) (Nat.le_refl _) _ _) (Nat.le_refl _) _ _
          have hD2 : IsD W2 g l := by
            rw [hW2]
            exact ((DN.out.far (p := ⟨w.heap.size, 0, none⟩) (by simpa using hgw) _).far (p := ⟨w.heap.size, 1, none⟩) (by simpa using hgw) _).far (p := ⟨w.heap.size, 2, none⟩) (by simpa using hgw) _
          suffices key : ProgOut c j w.heap.size (.returned (.agg #[.slice RA la cA, .slice RB lb cB, .slice RC lc cC])) W2 ∧ IsD W2 g l ∧ w.grownBy W2 (some g) by
            rw [hW2] at key
            exact key
          have hMa := hr.out.2.2.2.1
          have hVb := hr.out.2.2.2.2.1
          have hVc := HVC.out
          rw [Hla.out] at hMa ⊢
          rw [Hlb.out] at hVb ⊢
          rw [Hlc.out] at hVc ⊢
          refine ⟨⟨_, ⟨A, B, C⟩, rfl, isP_mk (p := rawP ⟨A, B, C⟩) (IsM.stb.to hMa (hsame _ _ (Nat.le_refl _) hz2)) (IsV.stb.to hVb (hsame _ _ (Nat.le_refl _) hz2)) (IsV.stb.to hVc (hsame _ _ hz1 (Nat.le_refl _))), ⟨?_, ?_, ?_, ?_, ?_, ?_, ?_⟩, Hvo.out.lB, hr.out.1⟩, hD2, hG⟩
          · exact Hvo.out.lA.trans Hvo.out.lB.symm
          · exact fun row h => (Hvo.out.rows row h).1.trans hr.out.1.symm
          · exact fun row h => (Hvo.out.rows row h).2
          · exact Hvo.out.szB
          · exact hr.out.2.1
          · exact Nat.le_trans (Nat.le_of_eq Hvo.out.lB) hm0
          · exact Nat.le_trans (Nat.le_of_eq hr.out.1) hn
end Go.Proofs.YtblpaocignlpkaaDoor
