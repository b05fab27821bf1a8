/-
  The walk through the law CoarseHistory.
-/
import Derived.Test.YtijjjbgnpfjpmaaGreatDoorProofCoarseHistory07
import Derived.Test.YtijjjbgnpfjpmaaGreatDoorProofCoarseHistory08
import Derived.Test.YtijjjbgnpfjpmaaGreatDoorProofCoarseHistory09
namespace Go.Proofs.YtijjjbgnpfjpmaaGreatDoor
open Go.RowKit
set_option linter.unusedVariables false
theorem intR_info : (Tryz.prog.info? 22).map (fun i => (i.zero, i.size, i.bytes)) = some (some (.slice none 0 0), 1, 24) := by kernel_rfl
theorem elIL : ElN Tryz.prog 66 22 1 24 :=
  ⟨Tryz.underlying66, by obtain ⟨i, h1, h2, h3, h4⟩ := info_parts intR_info; exact ⟨i, _, h1, h2, h3, h4, rfl⟩, by omega⟩
theorem in64_both {n : Int} (h : In64 n) : -9223372036854775808 ≤ n ∧ n ≤ 9223372036854775807 := by unfold In64 at h; exact h
theorem plOk_snoc {sz : List Nat} {ll : List (List Nat)} (h : PlOk sz ll) {r : List Nat} (hl : r.length = sz.length) (hr : ∀ i x y : Nat, r[i]? = some x → sz[i]? = some y → x < y) : PlOk sz (ll ++ [r]) := fun s hs => by
  rcases List.mem_append.1 hs with h1 | h1
  · exact h s h1
  · rw [List.mem_singleton] at h1
    subst h1
    exact ⟨hl, hr⟩
theorem old_ltC (w : World) : ∀ b, Old w b → b < w.heap.size := fun b h => h
def MI (wC wr : World) (b : Bool) (g : Option Rat) : Prop := Below wC.heap.size wC wr ∧ b = g.isNone ∧ ∃ (s : Bool) (P : Option Addr) (n k : Nat) (Q : Option Addr) (n' k' : Nat), Row wr wC.heap.size 30 [.bool s, .slice P n k, .slice Q n' k'] ∧ ∀ y, g = some y → IsQ wr (fun c => c < wr.heap.size ∧ c ≠ wC.heap.size) (.agg #[.bool s, .slice P n k, .slice Q n' k']) y
theorem MI.next {wC wr w' : World} {b : Bool} {g : Option Rat} (h : MI wC wr b g) (hb : Below wr.heap.size wr w') : MI wC w' b g := by
  obtain ⟨h1, h2, s, P, n, k, Q, n', k', h3, h4⟩ := h
  exact ⟨zaa h1 hb, h2, s, P, n, k, Q, n', k', h3.next hb, fun y hy => IsQ.stb.to (h4 y hy) fun c hc => ⟨⟨Nat.lt_of_lt_of_le hc.1 hb.size, hc.2⟩, fun o => hb.cell (p := ⟨c, o, none⟩) hc.1⟩⟩
theorem MI.put {wC wr : World} {b : Bool} {g : Option Rat} (h : MI wC wr b g) {S : Nat → Prop} {s : Bool} {P : Option Addr} {n k : Nat} {Q : Option Addr} {n' k' : Nat} {y : Rat} (hq : IsQ wr S (.agg #[.bool s, .slice P n k, .slice Q n' k']) y) (hS : ∀ c, S c → wC.heap.size < c ∧ c < wr.heap.size) : MI wC (put3 wr wC.heap.size (.bool s) (.slice P n k) (.slice Q n' k')) false (some y) := by
  obtain ⟨h1, _, _, _, _, _, _, _, _, h3, _⟩ := h
  refine ⟨zad h1 (Nat.le_refl _) _ _ _, rfl, _, _, _, _, _, _, _, h3.put3 _ _ _, fun z hz => ?_⟩
  cases hz
  exact IsQ.stb.to hq (zbi fun c hc => ⟨by have := (hS c hc).1; omega, by rw [zdm]; exact (hS c hc).2, by have := (hS c hc).1; omega⟩)
theorem MI.row {wC wr : World} {b : Bool} {g : Option Rat} (h : MI wC wr b g) : ∃ (s : Bool) (P : Option Addr) (n k : Nat) (Q : Option Addr) (n' k' : Nat), Row wr wC.heap.size 30 [.bool s, .slice P n k, .slice Q n' k'] := by
  obtain ⟨_, _, s, P, n, k, Q, n', k', h3, _⟩ := h
  exact ⟨s, P, n, k, Q, n', k', h3⟩
theorem MI.val {wC wr : World} {b : Bool} {g : Option Rat} {y : Rat} (h : MI wC wr b g) (hy : g = some y) : ∃ (s : Bool) (P : Option Addr) (n k : Nat) (Q : Option Addr) (n' k' : Nat), Row wr wC.heap.size 30 [.bool s, .slice P n k, .slice Q n' k'] ∧ IsQ wr (Old wr) (.agg #[.bool s, .slice P n k, .slice Q n' k']) y := by
  obtain ⟨_, _, s, P, n, k, Q, n', k', h3, h4⟩ := h
  exact ⟨s, P, n, k, Q, n', k', h3, IsQ.stb.to (h4 y hy) (zav fun c hc => hc.1)⟩
theorem gs_some {f : Nat → Nat → Rat} (l : List (Nat × Nat)) : ∀ g : Option Rat, g ≠ none ∨ l ≠ [] → ∃ y, l.foldl (fun g pt => zdv g (f pt.1 pt.2)) g = Option.some y := by
  induction l with
  | nil => intro g h; cases g with
    | none => rcases h with h | h <;> exact absurd rfl h
    | some y => exact ⟨y, rfl⟩
  | cons a l ih =>
    intro g _
    refine ih _ (.inl ?_)
    cases g with
    | none => simp [zdv]
    | some y => simp only [zdv]; split <;> simp
theorem grK_all {f : Nat → Nat → Rat} {sz : List Nat} (h : 1 ≤ sz.sum) : ∃ y, grK f sz sz.sum = Option.some y := by
  refine gs_some _ _ (.inr fun e => ?_)
  have := congrArg List.length e
  rw [List.length_take, dv_len] at this
  simp at this
  omega
theorem MI.none {wC wr : World} {g : Option Rat} (h : MI wC wr true g) (x : Rat) : zdv g x = some x := by
  have h2 := h.2.1
  cases g with
  | none => rfl
  | some y => cases h2
theorem MI.some {wC wr : World} {g : Option Rat} (h : MI wC wr false g) : ∃ y, g = some y := by
  have h2 := h.2.1
  cases g with
  | none => cases h2
  | some y => exact ⟨y, rfl⟩
set_option maxRecDepth 100000 in
set_option maxHeartbeats 3000000 in
theorem law_ch {w : World} {vl vp : Value} {l ys : List Int} {pl : Int} (hl : IsIL w (Old w) vl l) (hn : In64 pl) (hp : IsIL w (Old w) vp ys) (hB : Bru w) :
    Calls Tryz.prog 6 #[vl, .int .i64 pl, vp] w fun e w' => e = .returned (.bool true) ∧ Below w.heap.size w w' := by
  have HL := Lib.hid hl
  have HP := Lib.hid hp
  have HN := Lib.hid hn
  have HB := Lib.hid hB
  obtain ⟨A, c, rfl, hm1, hm2, _⟩ := hl
  obtain ⟨B, d, rfl, hm3, hm4, _⟩ := hp
  have hl9 : l.length ≤ 9223372036854775807 := by unfold maxLen at hm2; omega
  have hy9 : ys.length ≤ 9223372036854775807 := by unfold maxLen at hm4; omega
  obtain ⟨m0, hm0⟩ : ∃ m0, m0 = l.length := ⟨_, rfl⟩
  obtain ⟨L, hL⟩ : ∃ L, L = ys.length := ⟨_, rfl⟩
  have HM0 := Lib.hid hm0
  have HLL := Lib.hid hL
  rw [← hm0] at HL hl9 ⊢
  rw [← hL] at HP hy9 ⊢
  clear hn hB hm1 hm2 hm3 hm4 hm0 hL
  go_enter Tryz.func6, Tryz.ntmps6
  go_wp2_with fail
  refine (lives25_l HB.out).mono ?_
  rintro e w1 ⟨rfl, hb1⟩
  have B1 := Lib.hid hb1
  clear hb1
  rcases Nat.lt_or_ge 80 m0 with h80 | h80
  · have k1 : (m0 : Int) > 80 := by omega
    go_wp2_with fail
    go_ret
    exact ⟨rfl, B1.out⟩
  have k1 : ¬ (m0 : Int) > 80 := by omega
  rcases Nat.lt_or_ge 90 L with h90 | h90
  · have k2 : (L : Int) > 90 := by omega
    go_wp2_with fail
    go_ret
    exact ⟨rfl, B1.out⟩
  have k2 : ¬ (L : Int) > 90 := by omega
  rcases Nat.lt_or_ge L 3 with h3 | h3
  · have k3 : (L : Int) < 3 := by omega
    go_wp2_with fail
    go_ret
    exact ⟨rfl, B1.out⟩
  have k3 : ¬ (L : Int) < 3 := by omega
  go_wp2_with fail
  clear k1 k2 k3 hl9 hy9
  have hform := form25_l (w := w1) (c := c) (pl := pl) (l := l) (by rw [← HM0.out]; exact IsIL.stb.next HL.out B1.out) HN.out
  rw [← HM0.out] at hform
  refine hform.mono ?_
  clear hform
  rintro e w2 ⟨sz, zs, ⟨⟨v, rfl, hv⟩, hb2⟩, hfz, hz2⟩
  have FZ := Lib.hid hfz
  have B2 := Lib.hid (zaa B1.out hb2)
  obtain ⟨m, hm⟩ : ∃ m, m = sz.length := ⟨_, rfl⟩
  have HM := Lib.hid hm
  have hmp : (zbh zs).length = m := by rw [zbh, List.length_map, hfz.len, hm]
  have hm3 : m ≤ 3 := by rw [hm]; exact hfz.l3
  have hm1 : 1 ≤ m := by rw [hm]; exact hfz.l1
  have NF0 := Lib.hid hv
  obtain ⟨aS, cS, aP, cP, rfl, hns, _⟩ := hv
  rw [hmp, ← hm] at NF0 ⊢
  rw [← hm] at hns
  obtain ⟨wb, hwb, hbb, rb, Hzb⟩ := zao w2 #[.slice none 0 0, .slice none 0 0] 64
  obtain ⟨wn, hwn⟩ : ∃ x, pn2 wb w2.heap.size (.slice aS m cS) (.slice aP m cP) = x := ⟨_, rfl⟩
  have hbn : Below w2.heap.size w2 wn := by rw [← hwn]; exact below_pn2 hbb (Nat.le_refl _) _ _
  have RN : Hid (Row wn w2.heap.size 64 [.slice aS m cS, .slice aP m cP]) := by rw [← hwn]; exact rb.pn2 _ _
  have NF := Lib.hid (NF0.out.next hbn)
  have NS := Lib.hid (hns.next hbn)
  have BN := Lib.hid (zaa B2.out hbn)
  obtain ⟨n0, n1⟩ := row2 rb
  obtain ⟨f0, f1⟩ := (⟨rb.frozen 0, rb.frozen 1⟩ : wb.frozen? ⟨w2.heap.size, 0, none⟩ = false ∧ wb.frozen? ⟨w2.heap.size, 1, none⟩ = false)
  clear hb2 hfz hm hmp NF0 hns hbb rb hbn
  go_wp2_with fail
  clear hwb hwn n0 n1 f0 f1
  have PLw := Lib.hid (IsIL.stb.next HP.out BN.out)
  go_loopw [8, 9, 10, 11] (fun li i ro p wr => ∃ (k i0 : Nat) (ll : List (List Nat)) (S : Nat → Prop), i0 ≤ L ∧ i = .int .i64 ((i0 : Nat) : Int) ∧ Below wn.heap.size wn wr ∧ OwnS 1 22 (IsK .i64) wr wn.heap.size S li ll ∧ Hid (i0 = 3 * k ∧ ll.length = k ∧ PlOk sz ll ∧ ∀ b, S b → wn.heap.size ≤ b)) (fun _ i _ _ _ => L - (intOf i).toNat)
  case atStart => exact ⟨0, 0, [], fun _ => False, by omega, rfl, Below.refl _ _, OwnS.nil (fun _ h => h.elim), rfl, rfl, (fun r hr => by cases hr), fun _ h => h.elim⟩
  case round =>
    obtain ⟨k, i0, ll, S, hi0, rfl, hbw, hown, hfa⟩ := hrel
    have BW := Lib.hid hbw
    have OO := Lib.hid hown
    have hwz := hbw.size
    obtain ⟨aL, cL, eL⟩ := hown.slice
    rw [hfa.out.2.1] at eL
    subst eL
    have RNr := Lib.hid (RN.out.next hbw)
    have NSr := Lib.hid (NS.out.next hbw)
    have PLr := Lib.hid (IsIL.stb.next PLw.out hbw)
    clear hbw hown
    rcases Nat.lt_or_ge (i0 + 2) L with hlt | hge
    · have HLT := Lib.hid hlt
      rename World => wo
      have q1 : (i0 : Int) + 2 < (L : Int) := by omega
      go_wp2_with fail
      clear q1
      go_loopw [10, 11] (fun ro p wr => ∃ (j : Nat) (r : List Nat), j ≤ m ∧ p = .int .i64 ((j : Nat) : Int) ∧ Below wo.heap.size wo wr ∧ Own wr wo.heap.size 3 ro (cel .i64 r) ∧ Hid (r.length = j ∧ ∀ i x y : Nat, r[i]? = some x → sz[i]? = some y → x < y)) (fun _ p _ => m - (intOf p).toNat)
      case atStart => exact ⟨0, [], by omega, rfl, Below.refl _ _, Own.nil _ _ _, rfl, fun i x y h => by simp at h⟩
      case round =>
        obtain ⟨j, r, hj, rfl, hbj, hoj, hfj⟩ := hrel
        have BJ := Lib.hid hbj
        have OJ := Lib.hid hoj
        have hzj := hbj.size
        obtain ⟨ar, cr, er⟩ := own_sl hoj
        have e1 : (cel .i64 r).length = j := by rw [zal, hfj.out.1]
        rw [e1] at er
        subst er
        have RNj := Lib.hid (RNr.out.next hbj)
        obtain ⟨n0, n1⟩ := row2 RNj.out
        clear hoj
        rcases Nat.lt_or_ge j m with hlj | hgj
        · have HLJ := Lib.hid hlj
          obtain ⟨x, hx⟩ : ∃ x, sz[j]? = some x := ⟨_, List.getElem?_eq_getElem (by rw [← HM.out]; exact hlj)⟩
          obtain ⟨E, hE⟩ : ∃ E, E = i0 + j := ⟨_, rfl⟩
          obtain ⟨y, hy⟩ : ∃ y, ys[E]? = some y := ⟨_, List.getElem?_eq_getElem (by rw [← HLL.out, hE]; omega)⟩
          obtain ⟨b2, o2, rfl, _, u0⟩ := NSr.out.at hx
          obtain ⟨hy64, b1, o1, rfl, _, t0⟩ := isIL_get PLr.out hy
          have hEL : (E : Int) < (L : Int) := by omega
          have hEi : (i0 : Int) + (j : Int) = (E : Int) := by omega
          have hEw : IntKind.i64.wrap ((i0 : Int) + (j : Int)) = (E : Int) := by rw [hEi]; exact IntWalk.i64_in _ (by omega)
          have hjm : (j : Int) < (m : Int) := by omega
          have hx1 : 1 ≤ x ∧ x ≤ 3 := ⟨FZ.out.pos x (List.mem_of_getElem? hx), FZ.out.le3 x (List.mem_of_getElem? hx)⟩
          have u00 := u0
          have t00 := t0
          replace u0 := zac hbj u0
          replace t0 := zac hbj t0
          obtain ⟨z, hz⟩ : ∃ z : Nat, y % (x : Int) = (z : Int) := ⟨(y % (x : Int)).toNat, by have := Int.emod_nonneg y (show (x : Int) ≠ 0 by omega); omega⟩
          have hzx : z < x := by have := Int.emod_lt_of_pos y (show (0 : Int) < (x : Int) by omega); omega
          have HX := Lib.hid (And.intro hx (And.intro hx1 (And.intro (in64_both hy64) (And.intro hz (And.intro hzx (And.intro (World.block_lt_of_cell? _ _ u00) (World.block_lt_of_cell? _ _ t00)))))))
          have HS := hs3 n0 u0 t0
          clear hEi hx hy hE hx1 hy64 hz hzx n1 u0 t0 u00 t00 hbj
          go_wp2_with fail
          clear n0
          refine wp_region_noPanic ?_
          refine zck [] (SH.mk _ HS).s (fun _ => True) kr (HS.out _ bel) trivial (fun hHeld hC2 => ?_)
          refine pB 0 57 ?_
          refine pB 1 58 ?_
          refine pB 2 59 ?_
          refine pB 3 60 ?_
          refine pB 4 61 ?_
          refine pB 5 62 ?_
          refine pB 6 63 ?_
          refine pB 7 64 ?_
          refine pB 8 65 ?_
          refine pB 9 66 ?_
          refine pB 10 67 ?_
          refine pB 11 68 ?_
          refine oneA (i := 12) kr rfl rfl fun K hK => ?_
          go_simp
          go_at_call 32
          (with_reducible refine Calls.mono (mod_n _ y (x : Int) HX.out.2.2.1.1 HX.out.2.2.1.2 (by have := HX.out.2.1; omega) (by have := HX.out.2.1; omega)) ?_)
          rw [HX.out.2.2.2.1]
          rintro e w5 ⟨rfl, hw5⟩
          have B5 : Hid (Below wr.heap.size wr w5) := by rw [Hid, ← hw5]; exact zam wr
          clear hw5
          (focus go_wp2_with fail)
          refine hK.out _ _ (HS.out _ B5.out) trivial fun hHeld hC2 => ?_
          clear hK K
          refine sP ?_
          refine oneA (i := 13) kr rfl rfl fun K hK => ?_
          go_simp
          refine hK.out _ _ (HS.out _ (zaa B5.out (zaq w5 _))) trivial fun hHeld hC2 => ?_
          clear hK K
          refine sP ?_
          have O5 := Lib.hid (OJ.out.below B5.out)
          refine oneA (i := 14) kr rfl rfl fun K hK => ?_
          refine step_own elI1 (.tmp 57) (.tmp 70) rfl (by simp [Act.eval]) O5.out (by simp [Act.eval]) rfl (by rw [e1]; omega) (Nat.le_trans hzj B5.out.size) ?_
          intro v6 w6 hown6 hg6
          obtain ⟨a6, c6, e6⟩ : ∃ a c, v6 = .slice a (j + 1) c := by
            obtain ⟨a, c, e⟩ := own_sl hown6
            exact ⟨a, c, by rw [e, List.length_append, e1]; rfl⟩
          subst e6
          have hb6 : Below wo.heap.size wo w6 := (BJ.out.trans ((zaa B5.out (zaq w5 _)).mono hzj)).grown hg6 (Nat.le_trans hzj (zaa B5.out (zaq w5 (.cells #[.int .i64 ((z : Nat) : Int)] 3))).size) (fun b e => (World.ownsRow.lt O5.out b e).1)
          have BW6 := Lib.hid hb6
          have O6 : Hid (Own w6 wo.heap.size 3 (.slice a6 (j + 1) c6) (cel .i64 (r ++ [z]))) := by rw [Hid, cel_app]; exact hown6
          have hS6 : (SH.mk _ HS).s w6 := by
            have h0 := HS.out _ (zaa B5.out (zaq w5 (.cells #[.int .i64 ((z : Nat) : Int)] 3)))
            have hne : ∀ (b : Nat), b < wo.heap.size → some b ≠ (Value.slice ar j cr).ownBlock := fun b hb e => by
              have := (World.ownsRow.lt O5.out b e.symm).1
              omega
            exact ⟨hg6.cell h0.1 (hne _ (World.block_lt_of_cell? _ _ (row2 RNr.out).1)), hg6.cell h0.2.1 (hne _ HX.out.2.2.2.2.2.1), hg6.cell h0.2.2 (hne _ HX.out.2.2.2.2.2.2)⟩
          clear hown6 hg6 hb6
          refine hK.out _ _ hS6 trivial fun hHeld hC2 => ?_
          clear hK K
          refine sP ?_
          refine pB 15 10 ?_
          refine zfs kr ?_ _
          refine NoPanic.normal ?_
          go_wp2_with fail
          go_roundw
          case rel => exact ⟨j + 1, r ++ [z], by have := HLJ.out; omega, by go_num, BW6.out, O6.out, by rw [List.length_append, hfj.out.1]; rfl, by
            intro i a b h1 h2
            rcases Nat.lt_trichotomy i j with h | h | h
            · rw [List.getElem?_append_left (by rw [hfj.out.1]; exact h)] at h1
              exact hfj.out.2 i a b h1 h2
            · subst h
              rw [List.getElem?_append_right (by rw [hfj.out.1]; exact Nat.le_refl _), hfj.out.1, Nat.sub_self] at h1
              rw [HX.out.1] at h2
              simp at h1 h2
              have := HX.out.2.2.2.2.1
              omega
            · rw [List.getElem?_eq_none (by rw [List.length_append, hfj.out.1]; simp; omega)] at h1
              cases h1⟩
          case measure => have := HLJ.out; simp [intOf]; omega
        · obtain rfl : j = m := by omega
          have hown2 := OwnS.step IsK.stb (T := fun b => S b ∨ (wo.heap.size ≤ b ∧ b < wr.heap.size)) OO.out hbj (fun b h => .inl h) (fun b h => h)
          have hel2 : IsK .i64 wr (fun b => S b ∨ (wo.heap.size ≤ b ∧ b < wr.heap.size)) (.slice ar j cr) r := OJ.out.isL.isK fun b h1 h2 => .inr ⟨h1, h2⟩
          have hbase : wn.heap.size ≤ wr.heap.size := by omega
          have hll : (ll.length + 1) * (24 + 1) ≤ 140737488355328 := by have := hfa.out.1; have := hfa.out.2.1; omega
          have hrj := hfj.out
          have HRJ := Lib.hid hrj
          have hrj2 : r.length = sz.length := by rw [HRJ.out.1, HM.out]
          have PK := Lib.hid (plOk_snoc hfa.out.2.2.1 hrj2 HRJ.out.2)
          clear hrj hrj2 hgj
          go_wp2_with (at_builtin; refine wp_appS elIL rfl _ _ rfl IsK.stb rfl rfl rfl hown2 hel2 rfl (by intro u hu; simp [Value.cells] at hu; subst hu; rfl) hll hbase ?_; intro v3 w3 hown3 hb3 hz3)
          go_roundw
          case rel => exact ⟨k + 1, i0 + 3, ll ++ [r], fun b => S b ∨ (wo.heap.size ≤ b ∧ b < wr.heap.size), by have := HLT.out; omega, by go_num, (BW.out.trans (hbj.mono hwz)).trans hb3, hown3, by have := hfa.out.1; omega, by rw [List.length_append, hfa.out.2.1]; rfl, PK.out, fun b hb => by
            rcases hb with hb | hb
            · exact hfa.out.2.2.2 b hb
            · omega⟩
          case measure => have := HLT.out; simp [intOf]; omega
    · have hk30 : 1 ≤ k ∧ k ≤ 30 := by have := hfa.out.1; omega
      have HK := Lib.hid hk30
      have hq1 : ¬ ((i0 : Int) + 2 < (L : Int)) := by omega
      obtain ⟨n0, n1⟩ := row2 RNr.out
      have NF1 := Lib.hid (NF.out.next BW.out)
      have nf := Lib.hid FZ.out.nf
      have hint := paysZ_int FZ.out
      have hp36 := FZ.out.nf.prod
      have hk1 : 1 ≤ ll.length := by rw [hfa.out.2.1]; exact hk30.1
      have hk3 : ll.length ≤ 30 := by rw [hfa.out.2.1]; exact hk30.2
      have FH := Lib.hid (And.intro hint (And.intro hp36 (And.intro hk1 hk3)))
      have OKP := Lib.hid hfa.out.2.2.1
      have PLL : Hid (IsPl wr (.slice aL k cL) ll) := OwnS.isS IsK.stb (T := Old wr) OO.out (fun b hb => by obtain ⟨_, _, _, _, h4⟩ := OO.out; exact (h4 b hb).1) (fun b h1 h2 => h2)
      have HBr := Lib.hid (Bru.next HB.out (zaa BN.out BW.out))
      have BWr := Lib.hid (zaa BN.out BW.out)
      have HLK := Lib.hid hfa.out.2.1
      clear hint hp36 hk1 hk3 hge hk30
      go_wp2_with fail
      clear hq1 hi0
      refine (hist_a NF1.out nf.out PLL.out OKP.out FH.out.2.2.1 FH.out.2.2.2 HBr.out (hist_l1 FH.out.2.2.1 FH.out.2.2.2)).mono ?_
      rintro e w3 ⟨⟨v3, rfl, hv3⟩, hb3⟩
      have V3 := Lib.hid hv3
      obtain ⟨P3, k3, e3, _⟩ := zcb hv3
      obtain ⟨M, hM⟩ : ∃ M, M = ((zaz sz ll).map raw).length := ⟨_, rfl⟩
      rw [← hM] at e3
      subst e3
      have NF3 := Lib.hid (NF1.out.next hb3)
      have PL3 := Lib.hid (PLL.out.next hb3)
      have RN3 := Lib.hid (RNr.out.next hb3)
      have HB3 := Lib.hid (Bru.next HBr.out hb3)
      have BW3 := Lib.hid (zaa BWr.out hb3)
      clear n0 n1 hv3 hM
      obtain ⟨n0, n1⟩ := row2 RN3.out
      clear hb3
      go_wp2_with fail
      refine (cslack_ok NF3.out nf.out V3.out (hist_pr OKP.out FH.out.2.1 FH.out.2.2.1 FH.out.2.2.2) (hist_gain FH.out.1 FH.out.2.1 FH.out.2.2.1 FH.out.2.2.2) (fun p x t _ _ => (zft FH.out.1 FH.out.2.1 FH.out.2.2.1 FH.out.2.2.2 p t).fz) (slack_l1 FH.out.1 FH.out.2.1 FH.out.2.2.1 FH.out.2.2.2) HB3.out).mono ?_
      rintro e w4 ⟨⟨v4, rfl, hv4⟩, hb4⟩
      have Q4 := Lib.hid (IsQ.stb.to hv4 (zav tu_lt))
      obtain ⟨s4, P4, n4, k4, O4, m4, l4, rfl⟩ := zca hv4
      obtain ⟨w5, hw5, hb5, r5, Hz5⟩ := zao w4 #[.bool false, .slice none 0 0, .slice none 0 0] 30
      obtain ⟨wC, hwC⟩ : ∃ x, (put3 w5 w4.heap.size (.bool s4) (.slice P4 n4 k4) (.slice O4 m4 l4)) = x := ⟨_, rfl⟩
      have hbC : Below w4.heap.size w4 wC := by rw [← hwC]; exact zad hb5 (Nat.le_refl _) _ _ _
      have RX : Hid (Row wC w4.heap.size 30 [.bool s4, .slice P4 n4 k4, .slice O4 m4 l4]) := by rw [← hwC]; exact r5.put3 _ _ _
      obtain ⟨wM, hwM, hbM, rM, HzM⟩ := zao wC #[.bool false, .slice none 0 0, .slice none 0 0] 30
      have QX := Lib.hid (IsQ.stb.next Q4.out hbC)
      have NFC := Lib.hid (NF3.out.next (zaa hb4 hbC))
      have PLC := Lib.hid (PL3.out.next (zaa hb4 hbC))
      have RNC := Lib.hid (RN3.out.next (zaa hb4 hbC))
      have VC := Lib.hid (IsV.stb.next V3.out (zaa hb4 hbC))
      have HBC := Lib.hid (Bru.next HB3.out (zaa hb4 hbC))
      have BWC := Lib.hid (zaa BW3.out (zaa hb4 hbC))
      have M0 : Hid (MI wC wM true none) := ⟨hbM, rfl, _, _, _, _, _, _, _, rM, fun y h => by cases h⟩
      have NSC : Hid (IsNs wC (.slice aS m cS) sz) := by
        obtain ⟨_, _, _, _, e, h1, _⟩ := NFC.out
        simp only [Value.agg.injEq] at e
        injection e with e
        simp only [List.cons.injEq, Value.slice.injEq, and_true] at e
        obtain ⟨⟨rfl, h2, rfl⟩, _⟩ := e
        rw [← h2] at h1
        exact h1
      obtain ⟨b0, b1', b2'⟩ := zab r5
      obtain ⟨i0', i1', i2'⟩ := zan r5
      clear hb4 hv4 hb5 r5 hbC hbM rM Q4 NF3 PL3 RN3 V3 HB3 BW3 NF1 RNr NSr PLr HBr BWr n0 n1 PLL OO BW PLw NF NS RN BN
      go_wp2_with fail
      clear hw5 hwC hwM b0 b1' b2' i0' i1' i2'
      obtain ⟨f, hf⟩ : ∃ f, f = zcv sz (zbh zs) (zaz sz ll) := ⟨_, rfl⟩
      have HF := Lib.hid hf
      clear hf
      go_loopw [16, 18, 19, 20, 21, 22, 23, 24] (fun fi p t su i no gg e wr => ∃ (p' : Nat) (b : Bool), p' ≤ m ∧ p = .int .i64 ((p' : Nat) : Int) ∧ fi = .bool b ∧ MI wC wr b (grK f sz (sz.take p').sum)) (fun _ p _ _ _ _ _ _ _ => m - (intOf p).toNat)
      case atStart => exact ⟨0, true, by omega, rfl, rfl, M0.out⟩
      case round =>
        obtain ⟨p, b, hp, rfl, rfl, hmi⟩ := hrel
        have MM := Lib.hid hmi
        have hbp := hmi.1
        clear hmi M0
        obtain ⟨n0, n1⟩ := row2 (RNC.out.next hbp)
        rcases Nat.lt_or_ge p m with hlp | hgp
        · have HLP := Lib.hid hlp
          rename World => wp
          go_wp2_with fail
          obtain ⟨x, hx⟩ : ∃ x, sz[p]? = some x := ⟨_, List.getElem?_eq_getElem (by rw [← HM.out]; exact hlp)⟩
          have HX := Lib.hid hx
          have hx3 : x ≤ 3 := FZ.out.le3 x (List.mem_of_getElem? hx)
          have hpm : (p : Int) < (m : Int) := by omega
          obtain ⟨bS, oS, rfl, _, u0c⟩ := NSC.out.at hx
          have U0 := Lib.hid u0c
          clear n0 n1 hx u0c hbp
          go_loopw [16, 19, 20, 21, 22, 23, 24] (fun fi t su i no gg e wr => ∃ (t' : Nat) (b : Bool), t' ≤ x ∧ t = .int .i64 ((t' : Nat) : Int) ∧ fi = .bool b ∧ MI wC wr b (grK f sz ((sz.take p).sum + t'))) (fun _ t _ _ _ _ _ _ => x - (intOf t).toNat)
          case atStart => exact ⟨0, b, by omega, rfl, rfl, MM.out⟩
          case round =>
            obtain ⟨t, b2, ht, rfl, rfl, hmi⟩ := hrel
            have MT := Lib.hid hmi
            have hbt := hmi.1
            clear hmi MM
            obtain ⟨n0, n1⟩ := row2 (RNC.out.next hbt)
            have u0 := zac hbt U0.out
            have BT := Lib.hid hbt
            rcases Nat.lt_or_ge t x with hlt | hgt
            · have HLT := Lib.hid hlt
              have htx : (t : Int) < (x : Int) := by omega
              rename World => wo
              go_wp2_with fail
              refine (whole_i (w := wo) (n := 0) (by decide) (q := 0) rfl).mono ?_
              rintro e w7 ⟨⟨v7, rfl, hv7⟩, hb7⟩
              have Q7 := Lib.hid (IsQ.stb.old hv7)
              obtain ⟨s7, P7, n7, k7, O7, m7, l7, rfl⟩ := zca hv7
              obtain ⟨w8, hw8, hb8, r8, Hz8⟩ := zao w7 #[.bool false, .slice none 0 0, .slice none 0 0] 30
              obtain ⟨b0, b1', b2'⟩ := zab r8
              obtain ⟨i0', i1', i2'⟩ := zan r8
              obtain ⟨w9, hw9⟩ : ∃ x, (put3 w8 w7.heap.size (.bool s7) (.slice P7 n7 k7) (.slice O7 m7 l7)) = x := ⟨_, rfl⟩
              have B9 : Hid (Below w7.heap.size w7 w9) := by rw [Hid, ← hw9]; exact zad hb8 (Nat.le_refl _) _ _ _
              have R9 : Hid (Row w9 w7.heap.size 30 [.bool s7, .slice P7 n7 k7, .slice O7 m7 l7]) := by rw [← hw9]; exact r8.put3 _ _ _
              have Q9 : Hid (IsQ w9 (fun c => c < w9.heap.size ∧ c ≠ w7.heap.size) (.agg #[.bool s7, .slice P7 n7 k7, .slice O7 m7 l7]) 0) := IsQ.stb.to Q7.out fun c hc => ⟨⟨Nat.lt_of_lt_of_le hc B9.out.size, Nat.ne_of_lt hc⟩, fun o => B9.out.cell (p := ⟨c, o, none⟩) hc⟩
              have B7 := Lib.hid hb7
              clear hb7 hv7 hb8 r8 n0 n1 u0 htx
              go_wp2_with fail
              clear hw8 hw9 b0 b1' b2' i0' i1' i2'
              go_loopw [21, 22] (fun i no wr => ∃ (q : Nat) (s : Bool) (P : Option Addr) (n k' : Nat) (O : Option Addr) (m' l' : Nat), q ≤ k ∧ i = .int .i64 ((q : Nat) : Int) ∧ Below w7.heap.size w7 wr ∧ Row wr w7.heap.size 30 [.bool s, .slice P n k', .slice O m' l'] ∧ IsQ wr (fun c => c < wr.heap.size ∧ c ≠ w7.heap.size) (.agg #[.bool s, .slice P n k', .slice O m' l']) (tot (zdh sz (zbh zs) ll p t) q)) (fun i _ _ => k - (intOf i).toNat)
              case atStart => exact ⟨0, _, _, _, _, _, _, _, by omega, rfl, B9.out, R9.out, Q9.out⟩
              case round =>
                obtain ⟨q, sq, Pq, nq', kq, Oq, mq, lq', hq, rfl, hbq, hrq, hqq⟩ := hrel
                have BQ := Lib.hid hbq
                have RQ := Lib.hid hrq
                have QQ := Lib.hid hqq
                clear hrq hqq B9 R9 Q9
                have BC : Hid (Below wC.heap.size wC wr) := zaa BT.out (zaa B7.out hbq)
                obtain ⟨n0, n1⟩ := row2 (RNC.out.next BC.out)
                have hzq := hbq.size
                rcases Nat.lt_or_ge q k with hlq | hgq
                · have HLQ := Lib.hid hlq
                  obtain ⟨r, hr⟩ : ∃ r, ll[q]? = some r := ⟨_, List.getElem?_eq_getElem (by rw [HLK.out]; exact hlq)⟩
                  obtain ⟨bL, oL, aR, cR, rfl, hNR, l0c⟩ := PLC.out.get hr
                  have hrl : r.length = m := by rw [(OKP.out r (List.mem_of_getElem? hr)).1, HM.out]
                  rw [hrl] at hNR l0c
                  obtain ⟨y, hy⟩ : ∃ y, r[p]? = some y := ⟨_, List.getElem?_eq_getElem (by rw [hrl]; exact HLP.out)⟩
                  obtain ⟨bR, oR, rfl, _, y0c⟩ := hNR.at hy
                  have l0 := zac BC.out l0c
                  have y0 := zac BC.out y0c
                  have HR := Lib.hid (And.intro hr (And.intro hrl hy))
                  have NR := Lib.hid (hNR.next BC.out)
                  have NFr := Lib.hid (NFC.out.next BC.out)
                  have hyx : y < x := by
                    have h := zdp OKP.out (List.mem_of_getElem? hr) p x HX.out
                    rw [List.getD_eq_getElem?_getD, hy] at h
                    exact h
                  have HYX := Lib.hid hyx
                  have HI : Hid (∀ W, Below wr.heap.size wr W → ∀ t', t' < x → Calls Tryz.prog 36 #[.agg #[.slice (some ⟨bS, oS, none⟩) m cS, .slice aP m cP], .slice (some ⟨bR, oR, none⟩) m cR, .int .i64 ((p : Nat) : Int), .int .i64 ((t' : Nat) : Int)] W (RetO wr W (payQ sz (zbh zs) p (r.set p t')))) := fun W hW t' ht' => by
                    have h := inst_q (u := wr) (w := W) (p := p) (t := t') (R := some ⟨bR, oR, none⟩) (b := cR) NFr.out hW nf.out (by rw [← HM.out]; exact NR.out.next hW) (by rw [HR.out.2.1, HM.out]) (zdp OKP.out (List.mem_of_getElem? HR.out.1)) HX.out ht' rfl
                    rw [← HM.out] at h
                    exact h
                  have HS := hs4 n0 n1 l0 y0
                  have HS3 := hs3 n0 n1 l0
                  have HBL := Lib.hid (World.block_lt_of_cell? _ _ l0c)
                  have hqk : (q : Int) < (k : Int) := by omega
                  clear hyx hr hrl hy hNR l0c y0c n0 n1 l0 y0 hbq
                  go_wp2_with fail
                  go_cut [22] (fun v wx => ∃ (nb : Nat) (s : Bool) (P : Option Addr) (n k' : Nat) (O : Option Addr) (m' l' : Nat), v = .pointer (some ⟨nb, 0, none⟩) ∧ Hid (wr.heap.size ≤ nb) ∧ Hid (Below wr.heap.size wr wx) ∧ Hid (Row wx nb 30 [.bool s, .slice P n k', .slice O m' l']) ∧ Hid (IsQ wx (Old wr) (.agg #[.bool s, .slice P n k', .slice O m' l']) (payQ sz (zbh zs) p r)))
                  case first =>
                    refine wp_region_noPanic ?_
                    refine zck [15] (SH.mk _ HS).s (fun _ => True) kr (HS.out _ bel) trivial (fun hHeld hC2 => ?_)
                    obtain ⟨wd, hwd⟩ : ∃ x, x = wr.drew := ⟨_, rfl⟩
                    have Bd : Hid (Below wr.heap.size wr wd) := by rw [Hid, hwd]; exact zam wr
                    rw [← hwd] at hHeld ⊢
                    clear hwd
                    refine pB 0 117 ?_
                    refine pB 1 118 ?_
                    refine pB 2 119 ?_
                    refine pB 3 120 ?_
                    refine pB 4 121 ?_
                    refine pB 5 122 ?_
                    refine pB 6 123 ?_
                    refine pB 7 124 ?_
                    refine pB 8 125 ?_
                    refine pB 9 126 ?_
                    refine pB 10 127 ?_
                    refine pB 11 128 ?_
                    refine pB 12 129 ?_
                    refine twoA (i := 13) (j := 14) kr rfl rfl rfl rfl (fun K hK => ?_) (fun K hK => ?_)
                    · go_simp
                      go_at_call 36
                      (with_reducible refine Calls.mono (HI.out wd Bd.out y HYX.out) ?_)
                      rw [set_self HR.out.2.2]
                      rintro e w5 ⟨⟨v5, rfl, hv5⟩, hb5⟩
                      have B5 : Hid (Below wr.heap.size wr w5) := zaa Bd.out hb5
                      have Q5 := Lib.hid hv5
                      obtain ⟨s5, P5, n5, k5, O5, m5, l5, rfl⟩ := zca hv5
                      clear hv5 hb5
                      (focus go_wp2_with fail)
                      refine hK.out _ _ (HS.out _ B5.out) trivial fun hHeld hC2 => ?_
                      clear hK K
                      refine sP ?_
                      refine oneA (i := 14) kr rfl rfl fun K hK => ?_
                      go_simp
                      obtain ⟨w6, hw6, hb6, r6, hz6⟩ := zao w5 #[.bool false, .slice none 0 0, .slice none 0 0] 30
                      rw [hw6]
                      have B6 := Lib.hid (zaa B5.out hb6)
                      refine hK.out _ _ (HS.out _ B6.out) trivial fun hHeld hC2 => ?_
                      clear hK K hw6
                      refine sP ?_
                      obtain ⟨z0, z1, z2⟩ := zab r6
                      obtain ⟨g0, g1, g2⟩ := zan r6
                      have hle : wr.heap.size ≤ w5.heap.size := B5.out.size
                      refine oneT (i := 15) kr rfl rfl rfl rfl fun K hK => ?_
                      go_simp
                      refine hK.out _ _ (HS.out _ (zad B6.out hle _ _ _)) fun hHeld => ?_
                      clear hK K z0 z1 z2 g0 g1 g2
                      refine sP ?_
                      refine zfs kr ?_ _
                      refine NoPanic.normal ?_
                      have Q6 : IsQ (put3 w6 w5.heap.size (.bool s5) (.slice P5 n5 k5) (.slice O5 m5 l5)) (Old wr) (.agg #[.bool s5, .slice P5 n5 k5, .slice O5 m5 l5]) (payQ sz (zbh zs) p r) := by
                        have h1 : IsQ w6 (Old wr) (.agg #[.bool s5, .slice P5 n5 k5, .slice O5 m5 l5]) (payQ sz (zbh zs) p r) := IsQ.stb.to Q5.out fun b hb => ⟨hb, fun o => hb6.cell (p := ⟨b, o, none⟩) (Nat.lt_of_lt_of_le hb hle)⟩
                        exact IsQ.stb.to h1 (zbi fun b hb => ⟨Nat.ne_of_lt (Nat.lt_of_lt_of_le hb hle), hb⟩)
                      go_wp2_with fail
                      go_meet
                      exact ⟨_, _, _, _, _, _, _, _, rfl, hle, zad B6.out hle _ _ _, r6.put3 _ _ _, Q6⟩
                    · go_simp
                      obtain ⟨w6, hw6, hb6, r6, hz6⟩ := zao wd #[.bool false, .slice none 0 0, .slice none 0 0] 30
                      rw [hw6]
                      have B6 : Hid (Below wr.heap.size wr w6) := zaa Bd.out hb6
                      have R6 := Lib.hid r6
                      refine hK.out _ _ (HS.out _ B6.out) trivial fun hHeld hC2 => ?_
                      clear hK K hw6 hb6 r6
                      refine sP ?_
                      refine oneA (i := 13) kr rfl rfl fun K hK => ?_
                      go_simp
                      go_at_call 36
                      (with_reducible refine Calls.mono (HI.out w6 B6.out y HYX.out) ?_)
                      rw [set_self HR.out.2.2]
                      rintro e w5 ⟨⟨v5, rfl, hv5⟩, hb5⟩
                      have B5 := Lib.hid (zaa B6.out hb5)
                      have Q5 := Lib.hid hv5
                      have R5 := Lib.hid (R6.out.next hb5)
                      obtain ⟨s5, P5, n5, k5, O5, m5, l5, rfl⟩ := zca hv5
                      clear hv5 hb5
                      (focus go_wp2_with fail)
                      refine hK.out _ _ (HS.out _ B5.out) trivial fun hHeld hC2 => ?_
                      clear hK K
                      refine sP ?_
                      obtain ⟨z0, z1, z2⟩ := zab R5.out
                      obtain ⟨g0, g1, g2⟩ := zan R5.out
                      have hle : wr.heap.size ≤ wd.heap.size := Bd.out.size
                      refine oneT (i := 15) kr rfl rfl rfl rfl fun K hK => ?_
                      go_simp
                      refine hK.out _ _ (HS.out _ (zad B5.out hle _ _ _)) fun hHeld => ?_
                      clear hK K z0 z1 z2 g0 g1 g2
                      refine sP ?_
                      refine zfs kr ?_ _
                      refine NoPanic.normal ?_
                      have Q6 : IsQ (put3 w5 wd.heap.size (.bool s5) (.slice P5 n5 k5) (.slice O5 m5 l5)) (Old wr) (.agg #[.bool s5, .slice P5 n5 k5, .slice O5 m5 l5]) (payQ sz (zbh zs) p r) := IsQ.stb.to Q5.out (zbi fun b hb => ⟨Nat.ne_of_lt (Nat.lt_of_lt_of_le hb hle), hb⟩)
                      go_wp2_with fail
                      go_meet
                      exact ⟨_, _, _, _, _, _, _, _, rfl, hle, zad B5.out hle _ _ _, R5.out.put3 _ _ _, Q6⟩
                  case rest =>
                    obtain ⟨nb, sn, Pn, nn, kn, On, mn, ln, rfl, hnb, hbx, hrx, hqx⟩ := hcut
                    rename World => wx
                    have hz9 : w7.heap.size < wr.heap.size := RQ.out.lt
                    have hzC : wC.heap.size ≤ w7.heap.size := Nat.le_trans BT.out.size B7.out.size
                    have hz2C : w2.heap.size < wC.heap.size := RNC.out.lt
                    obtain ⟨n0, n1, l0⟩ := HS3.out _ hbx.out
                    have hbL : bL < wC.heap.size := HBL.out
                    obtain ⟨c0, c1, c2⟩ := zab hrx.out
                    have RX33 := Lib.hid (RQ.out.next hbx.out)
                    obtain ⟨s0, s1, s2⟩ := zab RX33.out
                    have H2 := hs6 n0 n1 l0 c0 c1 c2
                    have HK2 := hs3 s0 s1 s2
                    have QN : Hid (IsQ wx (Old wx) (.agg #[.bool sn, .slice Pn nn kn, .slice On mn ln]) (payQ sz (zbh zs) p r)) := isQ_oldS hqx.out hbx.out
                    have QS : Hid (IsQ wx (Old wx) (.agg #[.bool sq, .slice Pq nq' kq, .slice Oq mq lq']) (tot (zdh sz (zbh zs) ll p t) q)) := IsQ.stb.to QQ.out fun c hc => ⟨Nat.lt_of_lt_of_le hc.1 hbx.out.size, fun o => hbx.out.cell (p := ⟨c, o, none⟩) hc.1⟩
                    have HNB : Hid (w7.heap.size < nb) := Nat.lt_of_lt_of_le hz9 hnb.out
                    obtain ⟨e1, he1⟩ : ∃ e, e = payQ sz (zbh zs) p (r.set p t) - payQ sz (zbh zs) p r := ⟨_, rfl⟩
                    obtain ⟨e2, he2⟩ : ∃ e, e = tot (zdh sz (zbh zs) ll p t) q + e1 := ⟨_, rfl⟩
                    have HE : Hid (e1 = payQ sz (zbh zs) p (r.set p t) - payQ sz (zbh zs) p r ∧ e2 = tot (zdh sz (zbh zs) ll p t) q + e1 ∧ Sz e1 100000 ∧ Sz (tot (zdh sz (zbh zs) ll p t) q) 100000) := ⟨he1, he2, by rw [he1]; exact more_sz FH.out.1 _ _ _ _, tot_more_sz FH.out.1 ll p t (by have := HK.out; have := HLQ.out; omega)⟩
                    have HV : Hid (tot (zdh sz (zbh zs) ll p t) (q + 1) = e2) := by rw [Hid, zfm (more_at HR.out.1), he2, he1]
                    clear he1 he2 n0 n1 l0 c0 c1 c2 s0 s1 s2
                    go_wp2_with fail
                    refine wp_region_noPanic ?_
                    refine zck [13] (SH.mk _ H2).s (SH.mk _ HK2).s kr (H2.out _ bel) (HK2.out _ bel) (fun hHeld hC2 => ?_)
                    obtain ⟨wd, hwd⟩ : ∃ x, x = wx.drew := ⟨_, rfl⟩
                    have Bd : Hid (Below wx.heap.size wx wd) := by rw [Hid, hwd]; exact zam wx
                    rw [← hwd] at hHeld hC2 ⊢
                    clear hwd
                    refine pA 0 131 ?_
                    refine pB 1 132 ?_
                    refine pB 2 133 ?_
                    refine pB 3 134 ?_
                    refine pB 4 135 ?_
                    refine pB 5 136 ?_
                    refine pB 6 137 ?_
                    refine pB 7 138 ?_
                    refine pB 9 140 ?_
                    refine oneA (i := 8) kr rfl rfl fun K hK => ?_
                    go_simp
                    go_at_call 36
                    (with_reducible refine Calls.mono (HI.out wd (zaa hbx.out Bd.out) t HLT.out) ?_)
                    rintro e w5 ⟨⟨v5, rfl, hv5⟩, hb5⟩
                    have B5 := Lib.hid (zaa Bd.out hb5)
                    have Q5 : Hid (IsQ w5 (Old w5) v5 (payQ sz (zbh zs) p (r.set p t))) := IsQ.stb.to hv5 (zav fun b h => Nat.lt_of_lt_of_le h (Nat.le_trans hbx.out.size B5.out.size))
                    obtain ⟨s5, P5, n5, k5, O5, m5, l5, rfl⟩ := zca hv5
                    clear hv5 hb5
                    (focus go_wp2_with fail)
                    refine hK.out _ _ (H2.out _ B5.out) (HK2.out _ B5.out) fun hHeld hC2 => ?_
                    clear hK K
                    refine sP ?_
                    refine oneA (i := 10) kr rfl rfl fun K hK => ?_
                    go_simp
                    go_at_call 38
                    (with_reducible refine Calls.mono (rneg_s (IsQ.stb.next QN.out B5.out) (old_ltC w5) rfl) ?_)
                    rintro e w6 ⟨⟨v6, rfl, hv6⟩, hb6⟩
                    have Q6 := Lib.hid (isQ_oldS hv6 hb6)
                    have Q56 := Lib.hid (IsQ.stb.next Q5.out hb6)
                    have B6 := Lib.hid (zaa B5.out hb6)
                    obtain ⟨s6, P6, n6, k6, O6, m6, l6, rfl⟩ := zca hv6
                    clear hv6 hb6
                    (focus go_wp2_with fail)
                    refine hK.out _ _ (H2.out _ B6.out) (HK2.out _ B6.out) fun hHeld hC2 => ?_
                    clear hK K
                    refine sP ?_
                    refine oneA (i := 11) kr rfl rfl fun K hK => ?_
                    go_simp
                    go_at_call 37
                    (with_reducible refine Calls.mono (raddq (qc := e1) Q56.out Q6.out (payQ_sz FH.out.1 _ _ _) (payQ_sz FH.out.1 _ _ _).neg (by rw [HE.out.1, Rat.sub_eq_add_neg])) ?_)
                    rintro e w8 ⟨⟨v8, rfl, hv8⟩, hb8⟩
                    have Q8 := Lib.hid (IsQ.stb.old hv8)
                    have B8 := Lib.hid (zaa B6.out hb8)
                    obtain ⟨s8, P8, n8, k8, O8, m8, l8, rfl⟩ := zca hv8
                    clear hv8 hb8 Q56 Q6 Q5
                    (focus go_wp2_with fail)
                    refine hK.out _ _ (H2.out _ B8.out) (HK2.out _ B8.out) fun hHeld hC2 => ?_
                    clear hK K
                    refine sP ?_
                    refine oneA (i := 12) kr rfl rfl fun K hK => ?_
                    go_simp
                    go_at_call 37
                    (with_reducible refine Calls.mono (raddq (qc := e2) (IsQ.stb.next QS.out B8.out) Q8.out HE.out.2.2.2 HE.out.2.2.1 HE.out.2.1) ?_)
                    rintro e w10 ⟨⟨v10, rfl, hv10⟩, hb10⟩
                    have Q10 := Lib.hid hv10
                    have B10 := Lib.hid (zaa B8.out hb10)
                    obtain ⟨s10, P10, n10, k10, O10, m10, l10, rfl⟩ := zca hv10
                    clear hv10 hb10 Q8
                    (focus go_wp2_with fail)
                    refine hK.out _ _ (H2.out _ B10.out) (HK2.out _ B10.out) fun hHeld hC2 => ?_
                    clear hK K
                    refine sP ?_
                    have R10 := Lib.hid (RX33.out.next B10.out)
                    obtain ⟨z0, z1, z2⟩ := zab R10.out
                    obtain ⟨g0, g1, g2⟩ := zan R10.out
                    obtain ⟨h0, h1, h2, h3, h4, h5⟩ := H2.out _ B10.out
                    have hnb2 := HNB.out
                    refine oneT (i := 13) kr rfl rfl rfl rfl fun K hK => ?_
                    go_simp
                    refine hK.out _ _ ⟨zaj h0 (by omega), zaj h1 (by omega), zaj h2 (by omega), zaj h3 (by omega), zaj h4 (by omega), zaj h5 (by omega)⟩ fun hHeld => ?_
                    clear hK K z0 z1 z2 g0 g1 g2 h0 h1 h2 h3 h4 h5
                    refine sP ?_
                    refine zfs kr ?_ _
                    refine NoPanic.normal ?_
                    have QF : IsQ (put3 w10 w7.heap.size (.bool s10) (.slice P10 n10 k10) (.slice O10 m10 l10)) (fun c => c < (put3 w10 w7.heap.size (.bool s10) (.slice P10 n10 k10) (.slice O10 m10 l10)).heap.size ∧ c ≠ w7.heap.size) (.agg #[.bool s10, .slice P10 n10 k10, .slice O10 m10 l10]) (tot (zdh sz (zbh zs) ll p t) (q + 1)) := by
                      rw [HV.out]
                      have hz8 := B8.out.size
                      have hzx := hbx.out.size
                      exact IsQ.stb.to Q10.out (zbi fun c hc => ⟨by have := hc.1; omega, by rw [zdm]; exact hc.2, by have := hc.1; omega⟩)
                    have BF : Below w7.heap.size w7 (put3 w10 w7.heap.size (.bool s10) (.slice P10 n10 k10) (.slice O10 m10 l10)) := zad (zaa BQ.out (zaa hbx.out B10.out)) (Nat.le_refl _) _ _ _
                    have RF := R10.out.put3 (.bool s10) (.slice P10 n10 k10) (.slice O10 m10 l10)
                    clear hnb2 HNB
                    have hq30 : q ≤ 29 := by have := HK.out; have := HLQ.out; omega
                    go_wp2_with fail
                    go_roundw
                    case rel => exact ⟨q + 1, _, _, _, _, _, _, _, by have := HLQ.out; omega, by go_num, BF, RF, QF⟩
                    case measure => have := HLQ.out; simp [intOf]; omega
                · obtain rfl : q = k := by omega
                  obtain ⟨s0, s1, s2⟩ := zab RQ.out
                  have HK3 := hs3 s0 s1 s2
                  have hz9 : w7.heap.size < wr.heap.size := RQ.out.lt
                  have hzC : wC.heap.size ≤ w7.heap.size := Nat.le_trans BT.out.size B7.out.size
                  have HZC := Lib.hid hzC
                  have QS : Hid (IsQ wr (Old wr) (.agg #[.bool sq, .slice Pq nq' kq, .slice Oq mq lq']) (tot (zdh sz (zbh zs) ll p t) q)) := IsQ.stb.to QQ.out (zav fun c hc => hc.1)
                  have hk30 : q ≤ 30 := HK.out.2
                  have HGM : Hid (f p t = tot (zdh sz (zbh zs) ll p t) q * mkRat 1 q) := by
                    have h := gain_mean (sz := sz) (ps := zbh zs) (t := t) OKP.out FH.out.2.2.1 (p := p) (by rw [← HM.out]; exact HLP.out)
                    rw [HLK.out] at h
                    rw [Hid, HF.out]
                    exact h
                  have BTr := Lib.hid (zaa B7.out hbq)
                  clear s0 s1 s2 n0 n1 hgq hq hbq
                  go_wp2_with fail
                  refine wp_region_noPanic ?_
                  refine zck [5] (fun _ => True) (SH.mk _ HK3).s kr trivial (HK3.out _ bel) (fun hHeld hC2 => ?_)
                  obtain ⟨wd, hwd⟩ : ∃ x, x = wr.drew := ⟨_, rfl⟩
                  have Bd : Hid (Below wr.heap.size wr wd) := by rw [Hid, hwd]; exact zam wr
                  rw [← hwd] at hC2 ⊢
                  clear hwd
                  refine pA 0 144 ?_
                  refine pB 1 145 ?_
                  refine pB 2 146 ?_
                  refine oneA (i := 3) kr rfl rfl fun K hK => ?_
                  go_simp
                  go_at_call 35
                  (with_reducible refine Calls.mono (whole_i (w := wd) (n := ((q : Nat) : Int)) (by omega) (q := ((q : Nat) : Rat)) (Rat.intCast_natCast q).symm) ?_)
                  rintro e w5 ⟨⟨v5, rfl, hv5⟩, hb5⟩
                  have Q5 := Lib.hid (IsQ.stb.old hv5)
                  have B5 := Lib.hid (zaa Bd.out hb5)
                  obtain ⟨s5, P5, n5, k5, O5, m5, l5, rfl⟩ := zca hv5
                  clear hv5 hb5
                  (focus go_wp2_with fail)
                  refine hK.out _ _ trivial (HK3.out _ B5.out) fun hHeld hC2 => ?_
                  clear hK K
                  refine sP ?_
                  refine oneA (i := 4) kr rfl rfl fun K hK => ?_
                  go_simp
                  go_at_call 39
                  (with_reducible refine Calls.mono (rover_q (n := q) (qc := f p t) (IsQ.stb.next QS.out B5.out) Q5.out (tot_more_sz FH.out.1 ll p t hk30) (by rw [← Rat.intCast_natCast]; exact int_sz (by omega)) (Nat.lt_of_lt_of_le Nat.zero_lt_one HK.out.1) rfl HGM.out) ?_)
                  rintro e w6 ⟨⟨v6, rfl, hv6⟩, hb6⟩
                  have Q6 := Lib.hid hv6
                  have B6 := Lib.hid (zaa B5.out hb6)
                  obtain ⟨s6, P6, n6, k6, O6, m6, l6, rfl⟩ := zca hv6
                  clear hv6 hb6
                  (focus go_wp2_with fail)
                  refine hK.out _ _ trivial (HK3.out _ B6.out) fun hHeld hC2 => ?_
                  clear hK K
                  refine sP ?_
                  have R6 := Lib.hid (RQ.out.next B6.out)
                  obtain ⟨z0, z1, z2⟩ := zab R6.out
                  obtain ⟨g0, g1, g2⟩ := zan R6.out
                  refine oneT (i := 5) kr rfl rfl rfl rfl fun K hK => ?_
                  go_simp
                  refine hK.out _ _ trivial fun hHeld => ?_
                  clear hK K z0 z1 z2 g0 g1 g2
                  refine sP ?_
                  refine zfs kr ?_ _
                  refine NoPanic.normal ?_
                  obtain ⟨wE, hwE⟩ : ∃ x, x = put3 w6 w7.heap.size (.bool s6) (.slice P6 n6 k6) (.slice O6 m6 l6) := ⟨_, rfl⟩
                  rw [show ((w6.setCell ⟨w7.heap.size, 0, none⟩ (.bool s6)).setCell ⟨w7.heap.size, 1, none⟩ (.slice P6 n6 k6)).setCell ⟨w7.heap.size, 2, none⟩ (.slice O6 m6 l6) = wE from hwE.symm]
                  have hzE : w6.heap.size = wE.heap.size := by rw [hwE, zdm]
                  have QE : Hid (IsQ wE (fun c => wC.heap.size < c ∧ c < wE.heap.size) (.agg #[.bool s6, .slice P6 n6 k6, .slice O6 m6 l6]) (f p t)) := by
                    rw [Hid, ← hzE, hwE]
                    have h5 := B5.out.size
                    exact IsQ.stb.to Q6.out (zbi fun c hc => ⟨by have := hc.1; omega, by have := hc.1; omega, hc.2⟩)
                  have RE : Hid (Row wE w7.heap.size 30 [.bool s6, .slice P6 n6 k6, .slice O6 m6 l6]) := by rw [Hid, hwE]; exact R6.out.put3 _ _ _
                  have BE : Hid (Below wo.heap.size wo wE) := by rw [Hid, hwE]; exact zad (zaa BTr.out B6.out) B7.out.size _ _ _
                  clear hwE hzE hz9 hk30 Q5 Q6 R6 QS QQ RQ HK3
                  have NFE := Lib.hid (NFC.out.next (zaa BT.out BE.out))
                  have VE := Lib.hid (IsV.stb.next VC.out (zaa BT.out BE.out))
                  have HBE := Lib.hid (Bru.next HBC.out (zaa BT.out BE.out))
                  obtain ⟨n0, n1⟩ := row2 (RNC.out.next (zaa BT.out BE.out))
                  go_wp2_with fail
                  clear n0 n1
                  refine (cgain_ok NFE.out nf.out VE.out (hist_pr OKP.out FH.out.2.1 FH.out.2.2.1 FH.out.2.2.2) (hist_gain FH.out.1 FH.out.2.1 FH.out.2.2.1 FH.out.2.2.2) HX.out HLT.out (zft FH.out.1 FH.out.2.1 FH.out.2.2.1 FH.out.2.2.2 p t) HBE.out).mono ?_
                  rw [← HF.out]
                  rintro e w13 ⟨⟨v13, rfl, hv13⟩, hb13⟩
                  have Q13 := Lib.hid (IsQ.stb.to hv13 (zav tu_lt))
                  obtain ⟨s13, P13, n13, k13, O13, m13, l13, rfl⟩ := zca hv13
                  obtain ⟨w14, hw14, hb14, r14, Hz14⟩ := zao w13 #[.bool false, .slice none 0 0, .slice none 0 0] 30
                  obtain ⟨w15, hw15⟩ : ∃ x, (put3 w14 w13.heap.size (.bool s13) (.slice P13 n13 k13) (.slice O13 m13 l13)) = x := ⟨_, rfl⟩
                  have hb15 : Below w13.heap.size w13 w15 := by rw [← hw15]; exact zad hb14 (Nat.le_refl _) _ _ _
                  have RG : Hid (Row w15 w13.heap.size 30 [.bool s13, .slice P13 n13 k13, .slice O13 m13 l13]) := by rw [← hw15]; exact r14.put3 _ _ _
                  have B15 := Lib.hid (zaa hb13 hb15)
                  have QG := Lib.hid (IsQ.stb.next Q13.out hb15)
                  have RE15 := Lib.hid (RE.out.next B15.out)
                  have QE15 : Hid (IsQ w15 (fun c => wC.heap.size < c ∧ c < w15.heap.size) (.agg #[.bool s6, .slice P6 n6 k6, .slice O6 m6 l6]) (f p t)) := IsQ.stb.to QE.out fun c hc => ⟨⟨hc.1, Nat.lt_of_lt_of_le hc.2 B15.out.size⟩, fun o => B15.out.cell (p := ⟨c, o, none⟩) hc.2⟩
                  obtain ⟨x0, x1, x2⟩ := zab r14
                  obtain ⟨y0, y1, y2⟩ := zan r14
                  obtain ⟨c0, c1, c2⟩ := zab RG.out
                  obtain ⟨d0, d1, d2⟩ := zab RE15.out
                  have BE15 := Lib.hid (zaa BE.out B15.out)
                  clear hv13 hb13 hb14 r14 hb15 Q13 RE QE NFE VE HBE
                  go_wp2_with fail
                  clear hw14 hw15 x0 x1 x2 y0 y1 y2 c0 c1 c2 d0 d1 d2
                  refine (same_q QG.out (IsQ.stb.to QE15.out (zav fun c hc => hc.2))).mono ?_
                  rintro e w16 ⟨rfl, hb16⟩
                  have RF := Lib.hid (RE15.out.next hb16)
                  have QF : Hid (IsQ w16 (fun c => wC.heap.size < c ∧ c < w16.heap.size) (.agg #[.bool s6, .slice P6 n6 k6, .slice O6 m6 l6]) (f p t)) := IsQ.stb.to QE15.out fun c hc => ⟨⟨hc.1, Nat.lt_of_lt_of_le hc.2 hb16.size⟩, fun o => hb16.cell (p := ⟨c, o, none⟩) hc.2⟩
                  have BF := Lib.hid (zaa BE15.out hb16)
                  have MF := Lib.hid (MT.out.next BF.out)
                  have HNE : Hid (w7.heap.size ≠ wC.heap.size) := by
                    have h1 := BT.out
                    obtain ⟨_, _, _, _, _, _, _, _, _, h2, _⟩ := MT.out
                    have h3 := h2.lt
                    have h4 := B7.out.size
                    rw [Hid]
                    omega
                  clear hb16 RG QG RE15 QE15 B15
                  obtain ⟨d0, d1, d2⟩ := zab RF.out
                  cases b2 with
                  | true =>
                    have HGN : Hid (zdv (grK f sz ((sz.take p).sum + t)) (f p t) = some (f p t)) := MT.out.none _
                    have HZ := hs3 d0 d1 d2
                    go_wp2_with fail
                    clear d0 d1 d2
                    refine wp_region_noPanic ?_
                    refine zck [2] (SH.mk _ HZ).s (fun _ => True) kr (HZ.out _ bel) trivial (fun hHeld hC2 => ?_)
                    obtain ⟨wd, hwd⟩ : ∃ x, x = w16.drew := ⟨_, rfl⟩
                    have Bd : Hid (Below w16.heap.size w16 wd) := by rw [Hid, hwd]; exact zam w16
                    rw [← hwd] at hHeld ⊢
                    clear hwd
                    refine pB 0 172 ?_
                    refine pB 1 16 ?_
                    have MD := Lib.hid (MF.out.next Bd.out)
                    obtain ⟨sM, PM, nM, kM, OM, mM, lM, rM⟩ := MD.out.row
                    obtain ⟨z0, z1, z2⟩ := zab rM
                    obtain ⟨g0, g1, g2⟩ := zan rM
                    have hne : w7.heap.size ≠ wC.heap.size := HNE.out
                    obtain ⟨h0, h1, h2⟩ := HZ.out _ Bd.out
                    refine oneT (i := 2) kr rfl rfl rfl rfl fun K hK => ?_
                    go_simp
                    refine hK.out _ _ ⟨zaj h0 hne, zaj h1 hne, zaj h2 hne⟩ fun hHeld => ?_
                    clear hK K z0 z1 z2 g0 g1 g2 h0 h1 h2
                    refine sP ?_
                    refine zfs kr ?_ _
                    refine NoPanic.normal ?_
                    have ME := MD.out.put (S := fun c => wC.heap.size < c ∧ c < w16.heap.size) (IsQ.stb.to QF.out fun c hc => ⟨hc, fun o => Bd.out.cell (p := ⟨c, o, none⟩) hc.2⟩) (fun c hc => ⟨hc.1, Nat.lt_of_lt_of_le hc.2 Bd.out.size⟩)
                    have MEH := Lib.hid ME
                    clear MD ME rM
                    go_wp2_with fail
                    go_roundw
                    case rel => exact ⟨t + 1, false, by have := HLT.out; omega, by go_num, rfl, by rw [← Nat.add_assoc, grK_succ HX.out HLT.out, HGN.out]; exact MEH.out⟩
                    case measure => have := HLT.out; simp [intOf]; omega
                  | false =>
                    obtain ⟨y, hy⟩ := MT.out.some
                    obtain ⟨sM, PM, nM, kM, OM, mM, lM, rM, qM⟩ := MF.out.val hy
                    have QM := Lib.hid qM
                    obtain ⟨m0', m1', m2'⟩ := zab rM
                    have HY := Lib.hid hy
                    have HSY : Hid (Sz y 100000) := by
                      rw [HF.out] at hy
                      exact l1_sz (foldl_all (R := L1Q) (fun p t => zft FH.out.1 FH.out.2.1 FH.out.2.2.1 FH.out.2.2.2 p t) ((dv 0 sz).take ((sz.take p).sum + t)) none (fun _ h => by cases h) y hy)
                    clear hy rM qM
                    go_wp2_with fail
                    clear m0' m1' m2'
                    refine (rorder_q (IsQ.stb.to QF.out (zav fun c hc => hc.2)) QM.out (by rw [HF.out]; exact l1_sz (zft FH.out.1 FH.out.2.1 FH.out.2.2.1 FH.out.2.2.2 p t)) HSY.out).mono ?_
                    rintro e w17 ⟨rfl, hb17⟩
                    have RF := Lib.hid (RF.out.next hb17)
                    have QF : Hid (IsQ w17 (fun c => wC.heap.size < c ∧ c < w17.heap.size) (.agg #[.bool s6, .slice P6 n6 k6, .slice O6 m6 l6]) (f p t)) := IsQ.stb.to QF.out fun c hc => ⟨⟨hc.1, Nat.lt_of_lt_of_le hc.2 hb17.size⟩, fun o => hb17.cell (p := ⟨c, o, none⟩) hc.2⟩
                    have MF := Lib.hid (MF.out.next hb17)
                    clear hb17 QM d0 d1 d2
                    obtain ⟨d0, d1, d2⟩ := zab RF.out
                    have HZ := hs3 d0 d1 d2
                    rcases Decidable.em (y < f p t) with hlt2 | hge2
                    · have hc : cmpQ (f p t) y > 0 := cmpQ_pos.2 hlt2
                      have HGN : Hid (zdv (grK f sz ((sz.take p).sum + t)) (f p t) = some (f p t)) := by rw [Hid, HY.out, zdv, if_pos hlt2]
                      clear hlt2
                      go_wp2_with fail
                      clear d0 d1 d2 hc
                      refine wp_region_noPanic ?_
                      refine zck [2] (SH.mk _ HZ).s (fun _ => True) kr (HZ.out _ bel) trivial (fun hHeld hC2 => ?_)
                      obtain ⟨wd, hwd⟩ : ∃ x, x = w17.drew := ⟨_, rfl⟩
                      have Bd : Hid (Below w17.heap.size w17 wd) := by rw [Hid, hwd]; exact zam w17
                      rw [← hwd] at hHeld ⊢
                      clear hwd
                      refine pB 0 172 ?_
                      refine pB 1 16 ?_
                      have MD := Lib.hid (MF.out.next Bd.out)
                      obtain ⟨sM, PM, nM, kM, OM, mM, lM, rM⟩ := MD.out.row
                      obtain ⟨z0, z1, z2⟩ := zab rM
                      obtain ⟨g0, g1, g2⟩ := zan rM
                      have hne : w7.heap.size ≠ wC.heap.size := HNE.out
                      obtain ⟨h0, h1, h2⟩ := HZ.out _ Bd.out
                      refine oneT (i := 2) kr rfl rfl rfl rfl fun K hK => ?_
                      go_simp
                      refine hK.out _ _ ⟨zaj h0 hne, zaj h1 hne, zaj h2 hne⟩ fun hHeld => ?_
                      clear hK K z0 z1 z2 g0 g1 g2 h0 h1 h2
                      refine sP ?_
                      refine zfs kr ?_ _
                      refine NoPanic.normal ?_
                      have ME := MD.out.put (S := fun c => wC.heap.size < c ∧ c < w17.heap.size) (IsQ.stb.to QF.out fun c hc => ⟨hc, fun o => Bd.out.cell (p := ⟨c, o, none⟩) hc.2⟩) (fun c hc => ⟨hc.1, Nat.lt_of_lt_of_le hc.2 Bd.out.size⟩)
                      have MEH := Lib.hid ME
                      clear MD ME rM
                      go_wp2_with fail
                      go_roundw
                      case rel => exact ⟨t + 1, false, by have := HLT.out; omega, by go_num, rfl, by rw [← Nat.add_assoc, grK_succ HX.out HLT.out, HGN.out]; exact MEH.out⟩
                      case measure => have := HLT.out; simp [intOf]; omega
                    · have hc : ¬ cmpQ (f p t) y > 0 := fun h => hge2 (cmpQ_pos.1 h)
                      have HGN : Hid (zdv (grK f sz ((sz.take p).sum + t)) (f p t) = some y) := by rw [Hid, HY.out, zdv, if_neg hge2]
                      clear hge2
                      go_wp2_with fail
                      go_roundw
                      case rel => exact ⟨t + 1, false, by have := HLT.out; omega, by go_num, rfl, by rw [← Nat.add_assoc, grK_succ HX.out HLT.out, HGN.out, ← HY.out]; exact MF.out⟩
                      case measure => have := HLT.out; simp [intOf]; omega
            · obtain rfl : t = x := by omega
              clear hgt ht
              go_wp2_with fail
              clear n0 n1 u0
              go_roundw
              case rel => exact ⟨p + 1, b2, by have := HLP.out; omega, by go_num, rfl, by rw [take_sum HX.out]; exact MT.out⟩
              case measure => have := HLP.out; simp [intOf]; omega
        · obtain rfl : p = m := by omega
          have e1 : sz.take p = sz := List.take_of_length_le (by rw [← HM.out]; exact Nat.le_refl _)
          have hs1 : 1 ≤ sz.sum := by
            have hx := List.getElem?_eq_getElem (show 0 < sz.length by rw [← HM.out]; exact hm1)
            have h1 := sum_mem (List.mem_of_getElem? hx)
            have h2 := FZ.out.pos _ (List.mem_of_getElem? hx)
            omega
          obtain ⟨y, hy⟩ := grK_all (f := f) hs1
          have hM := MM.out
          rw [e1] at hM
          obtain ⟨sM, PM, nM, kM, OM, mM, lM, rM, qM⟩ := hM.val hy
          have hy2 : slackQ sz (zbh zs) (zaz sz ll) = y := by
            unfold slackQ
            rw [← HF.out, hy]
            rfl
          have QY := Lib.hid qM
          have QXr := Lib.hid (IsQ.stb.next QX.out hbp)
          rw [hy2] at QXr
          have BF := Lib.hid (zaa BWC.out hbp)
          obtain ⟨x0, x1, x2⟩ := zab (RX.out.next hbp)
          obtain ⟨z0, z1, z2⟩ := zab rM
          clear hM rM qM hy hy2 hs1 e1 hbp hgp hp
          go_wp2_with fail
          refine (same_q QXr.out QY.out).mono ?_
          rintro e w18 ⟨rfl, hb18⟩
          have B18 := Lib.hid (zaa BF.out hb18)
          clear hb18 x0 x1 x2 z0 z1 z2 n0 n1
          go_wp2_with fail
          go_ret
          exact ⟨rfl, B18.out⟩
theorem law_chE {w : World} {vl vp : Value} {l ys : List Int} (hl : IsIL w (Old w) vl l) (n : Int) (hn : (Lit.int .i64 n).wf = true) (hp : IsIL w (Old w) vp ys) (hB : Bru w) :
    Calls Tryz.prog 6 #[vl, .int .i64 n, vp] w fun e w' => e = .returned (.bool true) ∧ Below w.heap.size w w' := law_ch hl (in64_of hn) hp hB
end Go.Proofs.YtijjjbgnpfjpmaaGreatDoor
