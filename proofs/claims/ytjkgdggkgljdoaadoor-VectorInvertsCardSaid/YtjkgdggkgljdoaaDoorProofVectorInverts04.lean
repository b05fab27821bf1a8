/-
  The zau of the reference's Over: long division.
-/
import Derived.Test.YtjkgdggkgljdoaaDoorProofVectorInverts03
import Derived.Deep.DeepCutAuto
import Derived.IntWalk
import Derived.Test.YtjkgdggkgljdoaaDoorVinv06
import Derived.Test.YtjkgdggkgljdoaaDoorVinv04
namespace Go.Proofs.YtjkgdggkgljdoaaDoor
open Go.RowKit
set_option linter.unusedVariables false
set_option maxHeartbeats 400000 in
theorem small_n (w : World) (n : Int) (h0 : 0 ≤ n) (h9 : n ≤ 999999999) :
    Calls Tryd.prog 131 #[.int .u32 n] w fun e w' => (∃ v, e = .returned v ∧ IsN w' w.heap.size w'.heap.size v n.toNat) ∧ Below w.heap.size w w' := by
  obtain ⟨m, rfl⟩ := Int.eq_ofNat_of_zero_le h0
  have h := isL_new .u32 w 94 [m] (by simp [maxLen])
  have hl : IsL .u32 (w.alloc (.cells #[.int .u32 (m : Int)] 94)) w.heap.size (w.heap.size + 1) (.slice (some ⟨w.heap.size, 0, none⟩) 1 1) [m] := h
  have Hl := Lib.hid hl
  clear h hl
  go_enter Tryd.func131, Tryd.ntmps131
  go_wp2_with fail
  refine (rtrim_l Hl.out (by intro x hx; simp at hx; omega)).mono ?_
  rintro e w1 ⟨⟨v, rfl, hv⟩, rfl⟩
  go_wp2_with fail
  go_ret
  refine ⟨⟨_, rfl, ?_⟩, (Below.refl _ _).alloc (Nat.le_refl _) _⟩
  rw [World.size_alloc, Int.toNat_natCast]
  have e : val [m] = m := by simp [val]
  rw [e] at hv
  exact hv
theorem IsN.upB {w w' : World} {v : Value} {n lo : Nat} (h : IsN w lo w.heap.size v n) (hb : Below w.heap.size w w') : IsN w' 0 w'.heap.size v n := (h.below hb (Nat.le_refl _)).wide (Nat.zero_le _) hb.size
theorem own_lit1 (w : World) (x : Int) (n : Nat) (h : x = (n : Int)) : Own (w.alloc (.cells #[.int .u32 x] 94)) w.heap.size 94 (.slice (some ⟨w.heap.size, 0, none⟩) 1 1) (cel .u32 [n]) := by
  subst h
  refine ⟨by simp [cel], .inr ⟨w.heap.size, 1, #[.int .u32 (n : Int)], rfl, Nat.le_refl _, heap_alloc_new w _, by simp [cel], by unfold maxLen; omega, rfl, by simp [cel]⟩⟩
def Wl (w : World) (base : Nat) (A : Option Addr) (L : List Nat) : Prop := L ≠ [] → ∃ g sp, A = some ⟨g, 0, none⟩ ∧ base ≤ g ∧ Row w g 94 (cel .u32 L ++ sp)
theorem WrN.wl {w : World} {base : Nat} {v : Value} {n : Nat} (h : WrN w base v n) : ∃ A cap, v = .slice A (lim n).length cap ∧ (lim n).length ≤ cap ∧ cap ≤ maxLen ∧ Wl w base A (lim n) := by
  rcases h with ⟨rfl, rfl⟩ | ⟨g, cap, cur, rfl, hb, hr, ht, h1, h2⟩
  · exact ⟨none, 0, by rw [zbd]; rfl, by rw [zbd]; exact Nat.le_refl _, Nat.zero_le _, fun h => absurd zbd h⟩
  · refine ⟨_, cap, rfl, h1, h2, fun _ => ⟨g, cur.drop (lim n).length, rfl, hb, ?_⟩⟩
    rw [← ht, List.take_append_drop]
    exact hr
theorem Wl.isL {w : World} {base : Nat} {A : Option Addr} {L : List Nat} {c : Nat} (h : Wl w base A L) (h1 : L.length ≤ c) (h2 : c ≤ maxLen) : IsL .u32 w base w.heap.size (.slice A L.length c) L := by
  refine ⟨A, c, rfl, h1, h2, fun hne => ?_⟩
  obtain ⟨g, sp, rfl, hb, hr⟩ := h (by rintro rfl; exact hne rfl)
  refine ⟨g, 0, rfl, hb, hr.lt, fun j u hu => ?_⟩
  rw [Nat.zero_add, hr.cell, List.getElem?_append_left (List.getElem?_eq_some_iff.1 hu).1]
  exact hu
def OverSt (w3 wx : World) (N : Nat) (l : List Nat) (s4 s5 : Value) : Prop := ∃ (G lo hi : Nat), s4 = .slice (some ⟨G, 0, none⟩) N N ∧ Row wx G 94 (cel .u32 (List.replicate N 0)) ∧ w3.heap.size ≤ G ∧ IsL .u32 wx lo hi s5 l ∧ (G < lo ∨ hi ≤ G) ∧ w3.heap.size ≤ lo ∧ hi ≤ wx.heap.size ∧ Below w3.heap.size w3 wx
theorem OverSt.both {w3 : World} {N : Nat} {zs : Array Value} (hz : zs = (cel .u32 (List.replicate N 0)).toArray) : OverSt w3 (w3.alloc (.cells zs 94)).drew N [] (.slice (some ⟨w3.heap.size, 0, none⟩) N N) (.slice none 0 0) := by
  subst hz
  refine ⟨w3.heap.size, w3.heap.size + 1, w3.heap.size + 1, rfl, ?_, Nat.le_refl _, IsL.nil, .inl (by omega), by omega, ?_, ?_⟩
  · exact heap_alloc_new w3 _
  · show _ ≤ (w3.alloc _).heap.size; rw [World.size_alloc]; omega
  · exact below_drewN ((Below.refl _ w3).alloc (Nat.le_refl _) _) 1
theorem OverSt.makeFirst {w3 wr : World} {N : Nat} {zs : Array Value} {l : List Nat} {vr : Value} (hz : zs = (cel .u32 (List.replicate N 0)).toArray) (ho : Own wr (w3.alloc (.cells zs 94)).drew.heap.size 94 vr ([] ++ cel .u32 l)) (hb : Below (w3.alloc (.cells zs 94)).drew.heap.size (w3.alloc (.cells zs 94)).drew wr) :
    OverSt w3 wr N l (.slice (some ⟨w3.heap.size, 0, none⟩) N N) vr := by
  subst hz
  have hsz : (w3.alloc (.cells (cel .u32 (List.replicate N 0)).toArray 94)).drew.heap.size = w3.heap.size + 1 := World.size_alloc _ _
  have h0 : Below w3.heap.size w3 (w3.alloc (.cells (cel .u32 (List.replicate N 0)).toArray 94)).drew := below_drewN ((Below.refl _ w3).alloc (Nat.le_refl _) _) 1
  rw [List.nil_append] at ho
  refine ⟨w3.heap.size, _, _, rfl, ?_, Nat.le_refl _, Own.isL ho, .inl (by rw [hsz]; omega), by rw [hsz]; omega, Nat.le_refl _, h0.trans (hb.mono (by rw [hsz]; omega))⟩
  exact (hb.block w3.heap.size (by rw [hsz]; omega)).trans (heap_alloc_new w3 _)
theorem OverSt.appFirst {w3 wr : World} {N : Nat} {zs : Array Value} {l : List Nat} {vr : Value} (hz : zs = (cel .u32 (List.replicate N 0)).toArray) (ho : Own wr w3.drew.heap.size 94 vr ([] ++ cel .u32 l)) (hb : Below w3.drew.heap.size w3.drew wr) :
    OverSt w3 (wr.alloc (.cells zs 94)) N l (.slice (some ⟨wr.heap.size, 0, none⟩) N N) vr := by
  subst hz
  rw [List.nil_append] at ho
  have h0 : Below w3.heap.size w3 wr := (below_drewN (Below.refl _ w3) 1).trans hb
  refine ⟨wr.heap.size, w3.heap.size, wr.heap.size, rfl, heap_alloc_new wr _, h0.size, ?_, .inr (Nat.le_refl _), Nat.le_refl _, by rw [World.size_alloc]; omega, h0.alloc h0.size _⟩
  exact (Own.isL ho).below ((Below.refl _ wr).alloc (Nat.le_refl _) _) (Nat.le_refl _)
set_option maxHeartbeats 400000 in
theorem rover_smallF {w : World} {va vb : Value} {x y : Nat} (ha : IsN w 0 w.heap.size va x) (hb : IsN w 0 w.heap.size vb y) (hlt : x < y) :
    Calls Tryd.prog 114 #[va, vb] w fun e w' => (∃ q r, e = .returned (.tuple #[q, r]) ∧ IsN w' w.heap.size w'.heap.size q (x / y) ∧ IsN w' 0 w'.heap.size r (x % y)) ∧ Below w.heap.size w w' := by
  have Ha := Lib.hid ha
  have Hb := Lib.hid hb
  obtain ⟨A, c, rfl, _, _, _⟩ := ha
  obtain ⟨B, d, rfl, _, _, _⟩ := hb
  rw [Nat.div_eq_of_lt hlt, Nat.mod_eq_of_lt hlt]
  have hs := Lib.hid (sgn_lt hlt)
  clear hlt
  go_enter Tryd.func114, Tryd.ntmps114
  go_wp2_with fail
  refine (rorder_n Ha.out Hb.out).mono ?_
  rw [hs.out]
  rintro e w1 ⟨rfl, q, rfl⟩
  go_wp2_with fail
  go_ret2
  exact ⟨⟨_, _, rfl, IsN.zero, Ha.out.drewN q⟩, below_drewN (Below.refl _ _) q⟩
set_option maxRecDepth 100000 in
set_option maxHeartbeats 1600000 in
theorem rover_longF {w : World} {va vb : Value} {x y : Nat} (ha : IsN w 0 w.heap.size va x) (hb : IsN w 0 w.heap.size vb y) (hle : y ≤ x) (hy0 : 0 < y) (hx9 : (lim x).length ≤ 2000000000) :
    Calls Tryd.prog 114 #[va, vb] w fun e w' => (∃ q r, e = .returned (.tuple #[q, r]) ∧ IsN w' w.heap.size w'.heap.size q (x / y) ∧ IsN w' 0 w'.heap.size r (x % y)) ∧ Below w.heap.size w w' := by
  have Ha := Lib.hid ha
  have Hb := Lib.hid hb
  have hly : 1 ≤ (lim y).length := by have := lim_nil_iff (n := y); omega
  have hxy := zas hle
  obtain ⟨A, c, rfl, _, _, _⟩ := ha
  obtain ⟨B, d, rfl, _, _, hB⟩ := hb
  have hs0 : 0 ≤ sgn x y := by
    unfold sgn
    rw [if_neg (by omega)]
    split <;> omega
  generalize hsg : sgn x y = sg at *
  have Hsg := Lib.hid hsg
  obtain ⟨bb, ob, rfl, _, _, hcb⟩ := hB (zbm (j := (lim y).length - 1) (by omega))
  obtain ⟨t, ht, ht0, ht1, htc⟩ := zbl (j := (lim y).length - 1) (zbh y) hcb (by omega)
  have ht2 : 1 ≤ t := by
    have := top_ge (B := y) (n := (lim y).length - 1) (by omega)
    have := ht.out
    omega
  have hf0 : 1 ≤ 1000000000 / (t + 1) := by
    rw [Int.le_ediv_iff_mul_le (by omega)]
    omega
  have hf1 : 1000000000 / (t + 1) ≤ 500000000 := by
    apply Int.ediv_le_of_le_mul (by omega)
    omega
  have htd : ∀ q, (w.drewN q).cell? ⟨bb, ob + ((lim y).length - 1), none⟩ = some (.int .u32 t) := fun _ => htc
  have Htd := Lib.hid htd
  have Hle := Lib.hid hle
  have Hxy := Lib.hid hxy
  clear hcb htc htd hsg hle
  go_enter Tryd.func114, Tryd.ntmps114
  go_wp2_with fail
  refine (rorder_n Ha.out Hb.out).mono ?_
  rw [Hsg.out]
  rintro e w1 ⟨rfl, q, rfl⟩
  have hct := Htd.out q
  go_wp2_with fail
  generalize hF : 1000000000 / (t + 1) = F at *
  clear hF
  refine (small_n (w.drewN q) F (by omega) (by omega)).mono ?_
  rintro e w1 ⟨⟨vf, rfl, hf⟩, hb1⟩
  have hbw1 : Below w.heap.size w w1 := (below_drewN (Below.refl _ w) q).trans hb1
  have Hf1 := Lib.hid (hf.wide (lo' := 0) (Nat.zero_le _) (Nat.le_refl _))
  have Ha1 := Lib.hid (Ha.out.upB hbw1)
  have Hb1 := Lib.hid (Hb.out.upB hbw1)
  have Hbw1 := Lib.hid hbw1
  have hfl : Hid ((lim F.toNat).length ≤ 1) := lim_len_le.2 (by rw [pw_one]; omega)
  clear hf hb1 hct Htd hbw1
  go_wp2_with fail
  refine (rtimes_n Ha1.out Hf1.out (Nat.le_refl _) (Nat.le_refl _) (by omega) (by have := hfl.out; omega)).mono ?_
  rintro e w2 ⟨⟨va2, rfl, hva⟩, hb2⟩
  have HA2 := Lib.hid (hva.wide (lo' := 0) (Nat.zero_le _) (Nat.le_refl _))
  have Hf2 := Lib.hid (Hf1.out.upB hb2)
  have Hb2 := Lib.hid (Hb1.out.upB hb2)
  have Hbw2 := Lib.hid (below_trans' Hbw1.out hb2)
  clear hva hb2 Ha1 Hf1 Hb1
  go_wp2_with fail
  refine (rtimes_n Hb2.out Hf2.out (Nat.le_refl _) (Nat.le_refl _) (by omega) (by have := hfl.out; omega)).mono ?_
  rintro e w3 ⟨⟨vb3, rfl, hvb⟩, hb3⟩
  have HB3 := Lib.hid (hvb.wide (lo' := 0) (Nat.zero_le _) (Nat.le_refl _))
  have HA3 := Lib.hid (HA2.out.upB hb3)
  have Hf3 := Lib.hid (Hf2.out.upB hb3)
  have Hbw3 := Lib.hid (below_trans' Hbw2.out hb3)
  clear hvb hb3 HA2 Hf2 Hb2
  obtain ⟨X, hX⟩ : ∃ X, X = x * F.toNat := ⟨_, rfl⟩
  obtain ⟨Y, hY⟩ : ∃ Y, Y = y * F.toNat := ⟨_, rfl⟩
  rw [← hX] at HA3
  rw [← hY] at HB3
  have hYp : 0 < Y := by rw [hY]; exact Nat.mul_pos hy0 (by omega)
  have hYX : Y ≤ X := by rw [hX, hY]; exact Nat.mul_le_mul_right _ Hle.out
  have hm9 : (lim X).length ≤ 2000000001 := by rw [hX]; have := lim_len_mul x F.toNat; have := hfl.out; omega
  have hnm := zas hYX
  have hn1 : 1 ≤ (lim Y).length := by have := lim_nil_iff (n := Y); omega
  have HX := Lib.hid hX
  have HY := Lib.hid hY
  have hlf : Hid (lim F.toNat = [F.toNat]) := lim_small (by omega) (by omega)
  have Hf3' := Hf3.out
  unfold IsN at Hf3'
  rw [hlf.out] at Hf3'
  obtain ⟨Af, cf, rfl, _, _, hfs⟩ := Hf3'
  obtain ⟨fb, fo, rfl, _, hfbl, hfc⟩ := hfs (by simp [cel])
  have hfc0 := hfc 0 (.int .u32 F) (by simp [cel]; omega)
  simp only [List.length_cons, List.length_nil, Nat.zero_add] at *
  have Hfc := Lib.hid (And.intro hfbl hfc0)
  obtain ⟨A2, cA, rfl, hcA, hcAm, hAs⟩ := HA3.out
  obtain ⟨B2, cB, rfl, hcB, hcBm, hBs⟩ := HB3.out
  obtain ⟨b2, o2, rfl, _, hb2l, hbc⟩ := hBs (zbm (j := (lim Y).length - 1) (by omega))
  obtain ⟨T, hT, hT0, hT1, hTc⟩ := zbl (j := (lim Y).length - 1) (zbh Y) hbc (by omega)
  have HAs := Lib.hid hAs
  have HBs := Lib.hid hBs
  have hT2 : 1 ≤ T := by
    have := top_ge (B := Y) (n := (lim Y).length - 1) (by omega)
    have := hT.out
    omega
  generalize hm : (lim X).length = m at *
  generalize hn : (lim Y).length = n at *
  have Hm := Lib.hid hm
  have Hn := Lib.hid hn
  clear hX hY hfc hfc0 hbc hAs hBs hm hn hfs hB hYX Hf3
  go_wp2_with fail
  go_cut [4, 5] (fun s4 s5 wx => OverSt w3 wx (m - n + 1) ((lim X).drop (m - n + 1)) s4 s5)
  case first =>
    have u1 : IntKind.i64.wrap ((m : Int) - (n : Int)) = (m : Int) - (n : Int) := IntWalk.i64_in _ (by omega)
    have u2 : IntKind.i64.wrap ((m : Int) - (n : Int) + 1) = (m : Int) - (n : Int) + 1 := IntWalk.i64_in _ (by omega)
    obtain ⟨zs, hzs, hmk⟩ := make_rule Tryd.prog elN ((m : Int) - (n : Int) + 1) (m - n + 1) (by omega) (by omega)
    have Hzs := Lib.hid hzs
    clear hzs
    have u3 : 0 ≤ (m : Int) - (n : Int) + 1 := by omega
    have u4 : (m : Int) - (n : Int) + 1 ≤ (m : Int) := by omega
    have u5 : ((m : Int) - (n : Int) + 1).toNat = m - n + 1 := by omega
    have hdl : ((cel .u32 (lim X)).drop (m - n + 1)).length = m - (m - n + 1) := by rw [List.length_drop, zbo, Hm.out]
    have hd1 : ∀ u ∈ (cel .u32 (lim X)).drop (m - n + 1), u.oneCell' = true := fun u hu => cel_one _ _ u (List.mem_of_mem_drop hu)
    have Hcut := Lib.hid (And.intro hdl hd1)
    obtain ⟨ba, oa, rfl, _, hbal, _⟩ := HAs.out (zbm (j := 0) (by rw [Hm.out]; omega))
    have hcut : SV w3 0 w3.heap.size (if cA = m - n + 1 then some ⟨ba, oa, none⟩ else (some ⟨ba, oa, none⟩ : Option Addr).map (fun x => x.add (m - n + 1))) ((cel .u32 (lim X)).drop (m - n + 1)) := HAs.out.cut (by rw [zbo, Hm.out]; exact hcA)
    clear hdl hd1
    by_cases hck : cA = m - n + 1
    · rw [if_pos hck] at hcut
      have HS := Lib.hid hcut
      clear hcut
      subst hck
      have hnil : (lim X).drop (m - n + 1) = [] := List.drop_eq_nil_of_le (by rw [Hm.out]; omega)
      have Hnil := Lib.hid hnil
      clear hnil
      go_region_law (fail)
      all_goals
        go_wp2_with fail
        go_meet
        rw [Hnil.out]
        exact OverSt.both Hzs.out
    · rw [if_neg hck] at hcut
      simp only [Option.map_some, Addr.add_lit] at hcut
      have HS := Lib.hid hcut
      clear hcut
      go_region_law ((refine step_app (lo := 0) (hi := w3.heap.size) (v := .slice none 0 0) (xs := []) (A := some ⟨ba, oa + (m - n + 1), none⟩) (m := m - (m - n + 1)) (c := cA - (m - n + 1)) elN rfl (.tmp 52) (.tmp 59) rfl (by simp [Act.eval, Act.put]) (Own.nil _ _ _) (by simp [Act.eval, Act.put]) Hcut.out.1 (by first | (with_reducible exact HS.out.drew) | (with_reducible exact (HS.out.alloc (Nat.le_refl _) _).drew)) Hcut.out.2 (by simp only [List.length_nil]; omega) (Nat.le_refl _) ?_; intro vr wr hown hba hsa))
      all_goals
        go_wp2_with fail
        go_meet
        first
          | (with_reducible exact OverSt.makeFirst Hzs.out (by rw [cel_drop]; exact hown) hba)
          | (with_reducible exact OverSt.appFirst Hzs.out (by rw [cel_drop]; exact hown) hba)
  case rest =>
    obtain ⟨G, lo, hi, rfl, hrow, hG3, hL, hsep, hlo3, hhi, hbx⟩ := hcut
    have hR0 : Hid (val ((lim X).drop (m - n + 1)) < Y) := by
      have h1 := drop_lt (zbh X) (k := m - n + 1) (n := n - 1) (by rw [Hm.out]; omega)
      have h2 : pw (n - 1) ≤ Y := lim_len_lt.1 (by rw [Hn.out]; omega)
      unfold Hid
      omega
    have hN0 : IsN wc lo hi u5 (val ((lim X).drop (m - n + 1))) := by
      unfold IsN
      rw [drop_isLim]
      exact hL
    have HX3 := Lib.hid HAs.out
    clear hL Ha Hb Hbw1 Hbw2
    go_wp2_with fail
    go_loopw [5, 9] (fun s5 s9 wr => ∃ (k : Nat) (Lq : List Nat) (R lo hi : Nat), k ≤ m - n + 1 ∧ s9 = .int .i64 ((k : Int) - 1) ∧ Row wr G 94 (cel .u32 Lq) ∧ IsN wr lo hi s5 R ∧ (G < lo ∨ hi ≤ G) ∧ w3.heap.size ≤ lo ∧ hi ≤ wr.heap.size ∧ Below w3.heap.size w3 wr ∧
        Hid (Lq.length = m - n + 1 ∧ Lo Lq ∧ R < Y ∧ val ((lim X).drop k) = Y * val (Lq.drop k) + R ∧ (k < m - n + 1 → WrN wr (G + 1) s5 R))) (fun _ s9 _ => (intOf s9 + 1).toNat)
    case atStart =>
      exact ⟨m - n + 1, _, _, lo, hi, Nat.le_refl _, int_eq (by omega), hrow, hN0, hsep, hlo3, hhi, hbx, by simp, zcq _, hR0.out, by rw [show (List.replicate (m - n + 1) 0).drop (m - n + 1) = [] from by simp, zez, Nat.mul_zero, Nat.zero_add], fun h => absurd h (Nat.lt_irrefl _)⟩
    case round =>
      clear hrow hN0 hsep hlo3 hhi hbx hR0
      obtain ⟨k, Lq, R, lo, hi, hk, rfl, hrow, hN, hsep, hlo3, hhi, hbx, hrel⟩ := hrel
      rcases k with _ | k
      · obtain ⟨AR, cR, rfl, hcR1, hcR2, hwl⟩ := (hrel.out.2.2.2.2 (by omega)).wl
        have HRel := Lib.hid (hrel.out)
        have hls : Hid (∀ j, (lim R).getD j 0 = (lim R).getD j 0) := fun _ => rfl
        have hLR : Hid ((lim R).length = (lim R).length ∧ Lo (lim R)) := ⟨rfl, zbh R⟩
        have hRn : (lim R).length ≤ n := by rw [← Hn.out]; exact zas (Nat.le_of_lt hrel.out.2.2.1)
        clear hrel hN hsep hlo3 hhi
        go_wp2_with fail
        have hu5 : (0 : Int) ≤ F - 1 := by omega
        go_loopw [13, 14] (fun s13 s14 wi => ∃ (i : Nat) (L : List Nat) (rs : Int), i ≤ L.length ∧ s14 = .int .i64 ((i : Int) - 1) ∧ s13 = .int .u64 rs ∧ 0 ≤ rs ∧ rs ≤ F - 1 ∧ Wl wi (G + 1) AR L ∧ Row wi G 94 (cel .u32 Lq) ∧ Below w3.heap.size w3 wi ∧
          Hid (L.length = (lim R).length ∧ Lo L ∧ (∀ j, j < i → L.getD j 0 = (lim R).getD j 0) ∧ (val ((lim R).drop i) : Int) = val (L.drop i) * F + rs)) (fun _ s14 _ => (intOf s14 + 1).toNat)
        case atStart => exact ⟨(lim R).length, lim R, 0, Nat.le_refl _, rfl, rfl, Int.le_refl _, hu5, hwl, hrow, hbx, rfl, zbh R, fun _ _ => rfl, by simp [val]⟩
        case round =>
          clear hwl hrow hbx
          obtain ⟨i, L, rs, hi, rfl, rfl, hrs0, hrs1, hwl, hrow, hbx, hrel⟩ := hrel
          rcases i with _ | i
          · have he := short_end (by omega) hrs0 hrs1 hrel.out.2.2.2
            rw [zbf] at he
            have hcap : L.length ≤ cR := by have := hrel.out.1; omega
            have hr : IsL .u32 wr (G + 1) wr.heap.size (.slice AR L.length cR) L := hwl.isL hcap hcR2
            rw [hrel.out.1] at hr
            have hq : IsL .u32 wr G (G + 1) (.slice (some ⟨G, 0, none⟩) (m - n + 1) (m - n + 1)) Lq := by
              have := hrow.sv
              exact ⟨_, _, by rw [HRel.out.1], by rw [HRel.out.1]; exact Nat.le_refl _, by unfold maxLen; omega, this⟩
            have Hr := Lib.hid hr
            have Hq := Lib.hid hq
            have hG9 := hrow.lt
            have He := Lib.hid he
            have HloL := Lib.hid hrel.out.2.1
            have hde := div_end (a := x) (b := y) (q := val Lq) (u := R) (f := F.toNat) (by omega) (by rw [← HY.out]; exact HRel.out.2.2.1) (by
              have := HRel.out.2.2.2.1
              rw [List.drop_zero, List.drop_zero, zbf] at this
              rw [← HX.out, ← HY.out, this]
              omega)
            have Hde := Lib.hid hde
            clear hde he hr hq hrow hwl hrel
            go_wp2_with fail
            refine (rtrim_l Hq.out HRel.out.2.1).mono ?_
            rintro e w2 ⟨⟨vq, rfl, hvq⟩, rfl⟩
            go_wp2_with fail
            refine (rtrim_l Hr.out HloL.out).mono ?_
            rintro e w2 ⟨⟨vr, rfl, hvr⟩, rfl⟩
            go_wp2_with fail
            go_ret2
            refine ⟨⟨vq, vr, rfl, ?_, ?_⟩, Hbw3.out.trans (hbx.mono Hbw3.out.size)⟩
            · rw [← Hde.out.1]
              exact hvq.wide (by have := Hbw3.out.size; omega) hG9
            · rw [← Hde.out.2, ← He.out.1]
              exact hvr.wide (Nat.zero_le _) (Nat.le_refl _)
          · have hk1 : ((i + 1 : Nat) : Int) - 1 = (i : Int) := by omega
            rw [hk1]
            clear hk1
            obtain ⟨g, sp, rfl, hgb, hgr⟩ := hwl (by rintro rfl; simp at hi)
            obtain ⟨z, hz, hz0, hzc⟩ := hgr.numS (i := i) (by omega)
            have hz9 : z ≤ 999999999 := by have := zep hrel.out.2.1 i; have := hz.out; omega
            have hzf := hgr.frozen i
            have hq := short_bounds hrs0 hrs1 hz0 hz9
            have hq0 := hq.1
            have hq1 := hq.2.1
            have hq2 := hq.2.2.1
            have hq3 := hq.2.2.2
            clear hq
            have hfcx : wr.cell? ⟨fb, fo, none⟩ = some (.int .u32 F) := (hbx.cell (p := ⟨fb, fo, none⟩) Hfc.out.1).trans Hfc.out.2
            have hilen : i < (lim R).length := by have := hrel.out.1; omega
            have hFne : (F == 0) = false := beq_eq_false_iff_ne.2 (by omega)
            have hfcy : (wr.setCell ⟨g, i, none⟩ (.int .u32 ((rs * 1000000000 + z) / F))).cell? ⟨fb, fo, none⟩ = some (.int .u32 F) := by
              rw [World.cell?_setCell_other _ _ _ _ (by have := Hfc.out.1; simp only [ne_eq, Addr.mk.injEq, not_and]; omega)]; exact hfcx
            go_wp2
            go_roundw
            case rel =>
              refine ⟨i, L.set i ((rs * 1000000000 + z) / F).toNat, (rs * 1000000000 + z) % F, by rw [List.length_set]; omega, rfl, rfl, hq2, hq3, fun _ => ⟨g, sp, rfl, hgb, hgr.setS i _ (by omega) _ (by omega)⟩, hrow.far (by simp only; omega) _, hbx.setCell (by simp only; omega) _, ?_⟩
              have hzR : z = ((lim R).getD i 0 : Nat) := by rw [← hrel.out.2.2.1 i (Nat.lt_succ_self _)]; exact hz.out
              refine ⟨by rw [List.length_set]; exact hrel.out.1, zcc hrel.out.2.1 (by omega), fun j hj => ?_, short_step hilen hrel.out.1 hzR hq0 hrel.out.2.2.2⟩
              rw [zbq (by omega)]
              exact hrel.out.2.2.1 j (by omega)
            case measure => simp [intOf]
      · have hk1 : ((k + 1 : Nat) : Int) - 1 = (k : Int) := by omega
        rw [hk1]
        clear hk1
        have hAk := (HAs.out.below hbx (Nat.le_refl _))
        obtain ⟨ba, oa, hA2e, _, hbal, hca⟩ := hAk (zbm (j := k) (by rw [Hm.out]; omega))
        subst hA2e
        obtain ⟨ak, hak, hak0, hak1, hakc⟩ := zbl (j := k) (zbh X) hca (by rw [Hm.out]; omega)
        have HN := Lib.hid hN
        have hRn : Hid ((lim R).length ≤ n) := by rw [← Hn.out]; exact zas (Nat.le_of_lt hrel.out.2.2.1)
        obtain ⟨AR, cR, rfl, hcR, hcRm, hRs⟩ := hN
        have HRs := Lib.hid hRs
        have hRn' := hRn.out
        clear hca hAk hRs
        go_wp2_with (at_builtin; refine wp_appN elN rfl _ _ rfl rfl (own_lit1 wr ak ak.toNat (by omega)) rfl (zbo _ _) (HRs.out.alloc hhi _) (cel_one _ _) (by simp only [zbo, List.length_cons, List.length_nil]; omega) (by simp) ?_; intro v1 w4 hown4 hb4 hz4)
        have hIL : IsL .u32 w4 wr.heap.size w4.heap.size v1 (ak.toNat :: lim R) := by
          have := hown4
          rw [← cel_append] at this
          exact Own.isL this
        have hloL : Lo (ak.toNat :: lim R) := lo_cons.2 ⟨by omega, zbh R⟩
        have hbw4 : Below wr.heap.size wr w4 := ((Below.refl _ wr).alloc (Nat.le_refl _) _).trans hb4
        have HIL := Lib.hid hIL
        have HloL := Lib.hid hloL
        clear hown4 hb4 hz4 hIL hloL HN HRs
        refine (rtrim_l HIL.out HloL.out).mono ?_
        rw [cons_val]
        have hR'lt := cons_lt (a := ak.toNat) (R := R) (B := Y) (by omega) hrel.out.2.2.1
        have hRe : Hid ((lim X).getD k 0 + 1000000000 * R = ak.toNat + 1000000000 * R) := by have := hak.out; unfold Hid; omega
        generalize ak.toNat + 1000000000 * R = R' at *
        have hlead := lead_lt (R := R') (B := Y) (n := n - 1) (by rw [Hn.out]; omega) hR'lt
        have hRl : (lim R').length ≤ n + 1 := by have := hlead.1; omega
        have hRq := Lib.hid hlead.2
        have HR' := Lib.hid hR'lt
        clear hlead hR'lt HIL HloL
        rintro e w5 ⟨⟨v5, rfl, hv5⟩, rfl⟩
        have Hv5 := Lib.hid hv5
        obtain ⟨A5, c5, rfl, _, _, h5s⟩ := hv5
        have HRel := Lib.hid (hrel.out)
        clear hrel
        go_wp2_with fail
        go_loop [10, 11] (fun s10 s11 => ∃ (j q : Nat), j ≤ (lim R').length ∧ s10 = .int .u64 (q : Int) ∧ s11 = .int .i64 ((j : Int) - 1) ∧ (n - 1 ≤ j ∨ j = (lim R').length) ∧ Hid (q = val ((lim R').drop j))) (fun _ s11 => (intOf s11 + 1).toNat)
        case atStart => exact ⟨(lim R').length, 0, Nat.le_refl _, rfl, rfl, .inr rfl, by rw [Hid, List.drop_length]; rfl⟩
        case round =>
          obtain ⟨j, q, hj, rfl, rfl, hjn, hq⟩ := hrel
          rcases Nat.lt_or_ge (n - 1) j with hjl | hjg
          · rcases j with _ | j
            · omega
            · have hk1 : ((j + 1 : Nat) : Int) - 1 = (j : Int) := by omega
              rw [hk1]
              clear hk1
              obtain ⟨b5, o5, rfl, _, _, hc5⟩ := h5s (zbm (j := j) hj)
              obtain ⟨z, hz, hz0, hz1, hzc⟩ := zbl (j := j) (zbh R') hc5 (by omega)
              clear hc5
              have hq9 : q ≤ 999999999 := by
                have h1 := drop_lt (zbh R') (k := j + 1) (n := 1) (by omega)
                rw [pw_one, ← hq.out] at h1
                omega
              go_wp2
              go_round
              case rel =>
                refine ⟨j, q * 1000000000 + z.toNat, by omega, by go_num, by go_num, .inl (by omega), ?_⟩
                have h1 := zfj (l := lim R') (k := j) (by omega)
                have := hq.out
                have := hz.out
                unfold Hid
                omega
              case measure => simp [intOf]
          · have hqe : Hid (q = R' / pw (n - 1)) := lead_at hq.out (by omega)
            have hq18 : q < 1000000000000000000 := by rw [hqe.out]; exact hRq.out
            have hqT0 : 0 ≤ (q : Int) / T := Int.ediv_nonneg (by omega) (by omega)
            have hTne : (T == 0) = false := beq_eq_false_iff_ne.2 (by omega)
            have hg : Hid (∀ d : Nat, (d = 999999999 ∨ (d : Int) = (q : Int) / T) → R' < (d + 1) * Y) := by
              intro d hd
              refine guess_ge (n := n - 1) (by rw [Hn.out]; omega) HR'.out ?_
              rcases hd with hd | hd
              · exact .inl hd
              · right
                rw [← hqe.out]
                have := hT.out
                rw [this] at hd
                exact_mod_cast hd
            have hnj : ¬ n ≤ j := by omega
            have hnj2 : (n : Int) - 1 > (j : Int) - 1 := by omega
            have hqT1 : (q : Int) / T < 1000000000000000000 := Int.ediv_lt_of_lt_mul (by omega) (by have := Int.mul_le_mul_of_nonneg_left (a := 1) (b := T) (c := 1000000000000000000) (by omega) (by omega); omega)
            have hu64 : IntKind.u64.wrap ((q : Int) / T) = (q : Int) / T := IntWalk.u64_in _ (by omega)
            have hst : Hid (∃ d0 : Nat, d0 ≤ 999999999 ∧ R' < (d0 + 1) * Y ∧ ((q : Int) / T ≤ 999999999 → (q : Int) / T = d0) ∧ (999999999 < (q : Int) / T → d0 = 999999999)) := by
              by_cases hmin : (q : Int) / T ≤ 999999999
              · obtain ⟨d0, hd0⟩ := Int.eq_ofNat_of_zero_le hqT0
                exact ⟨d0, by omega, hg.out d0 (.inr hd0.symm), fun _ => hd0, fun h => by omega⟩
              · exact ⟨999999999, Nat.le_refl _, hg.out _ (.inl rfl), fun h => absurd h hmin, fun _ => rfl⟩
            have Hbw4 := Lib.hid (hbx.trans (hbw4.mono hbx.size))
            clear hg hRq hqe hjn
            by_cases hmin : (q : Int) / T ≤ 999999999
            all_goals
              go_wp2
              go_loopw [12] (fun s12 wi => ∃ d : Nat, s12 = .int .u64 (d : Int) ∧ d ≤ 999999999 ∧ Below w4.heap.size w4 wi ∧ Hid (R' < (d + 1) * Y)) (fun s12 _ => (intOf s12).toNat)
              case atStart =>
                obtain ⟨d0, h1, h2, h3, h4⟩ := hst.out
                first
                  | exact ⟨d0, by rw [h3 hmin], h1, Below.refl _ _, h2⟩
                  | exact ⟨d0, by rw [h4 (by omega)]; rfl, h1, Below.refl _ _, h2⟩
              case round =>
                clear hst
                obtain ⟨d, rfl, hd9, hbi, hdY⟩ := hrel
                have hu32 : IntKind.u32.wrap (d : Int) = (d : Int) := IntWalk.u32_in _ (by omega)
                have HB4 := Lib.hid (HB3.out.upB (Hbw4.out.trans (hbi.mono (Hbw4.out.size))))
                have Hv6 := Lib.hid (Hv5.out.upB hbi)
                go_wp2_with fail
                refine (small_n wr (d : Int) (by omega) (by omega)).mono ?_
                rintro e w6 ⟨⟨vs, rfl, hs⟩, hb6⟩
                rw [Int.toNat_natCast] at hs
                have Hs6 := Lib.hid hs
                clear hs
                go_wp2_with fail
                refine (rtimes_n (HB4.out.upB hb6) Hs6.out (Nat.le_refl _) (Nat.le_refl _) (by rw [Hn.out]; omega) (by have := lim_len_le (n := d) (k := 1); rw [pw_one] at this; omega)).mono ?_
                rintro e w7 ⟨⟨vp, rfl, hp⟩, hb7⟩
                have Hp7 := Lib.hid (hp.wide (lo' := 0) (Nat.zero_le _) (Nat.le_refl _))
                have hbi7 := below_trans' hbi (below_trans' hb6 hb7)
                clear hp Hs6
                go_wp2_with fail
                refine (rorder_n Hp7.out (Hv5.out.upB hbi7)).mono ?_
                rintro e w8 ⟨rfl, q8, rfl⟩
                rcases Nat.lt_or_ge R' (Y * d) with hgt | hle
                · rw [sgn_gt hgt]
                  clear Hp7
                  have hdd := digit_down hgt
                  have hd1 := hdd.1
                  have Hdd := Lib.hid hdd.2
                  clear hdd hgt
                  have hu64d : IntKind.u64.wrap ((d : Int) - 1) = (d : Int) - 1 := IntWalk.u64_in _ (by omega)
                  go_wp2_with fail
                  go_roundw
                  case rel =>
                    exact ⟨d - 1, by go_num, by omega, below_drewN hbi7 _, Hdd.out⟩
                  case measure => simp [intOf]; omega
                · have hsl : sgn (Y * d) R' ≤ 0 := by unfold sgn; split <;> (try split) <;> omega
                  generalize sgn (Y * d) R' = sg8 at *
                  have hbi8 := below_drewN hbi7 q8
                  have HB8 := Lib.hid (HB3.out.upB (Hbw4.out.trans (hbi8.mono (Hbw4.out.size))))
                  have Hle := Lib.hid hle
                  clear Hp7 hbi hbi7 hb6 hb7 HB4 Hv6 hle
                  go_wp2_with fail
                  refine (small_n (w7.drewN q8) (d : Int) (by omega) (by omega)).mono ?_
                  rintro e w9 ⟨⟨vs2, rfl, hs⟩, hb9⟩
                  rw [Int.toNat_natCast] at hs
                  have Hs9 := Lib.hid hs
                  clear hs
                  go_wp2_with fail
                  refine (rtimes_n (HB8.out.upB hb9) Hs9.out (Nat.le_refl _) (Nat.le_refl _) (by rw [Hn.out]; omega) (by have := lim_len_le (n := d) (k := 1); rw [pw_one] at this; omega)).mono ?_
                  rintro e wa ⟨⟨vp2, rfl, hp⟩, hba⟩
                  have Hpa := Lib.hid (hp.wide (lo' := 0) (Nat.zero_le _) (Nat.le_refl _))
                  have hbia := below_trans' hbi8 (below_trans' hb9 hba)
                  clear hp Hs9
                  go_wp2_with fail
                  refine (rminus_w (Hv5.out.upB hbia) Hpa.out (Nat.le_refl _) (Nat.le_refl _) Hle.out (by omega)).mono ?_
                  rintro e wb ⟨⟨vr, rfl, hwr⟩, hbb⟩
                  have Hwr := Lib.hid hwr
                  have hbib := below_trans' hbia hbb
                  have hrb : Row wb G 94 (cel .u32 Lq) := ((hbw4.trans (hbib.mono hbw4.size)).block G hrow.lt).trans hrow
                  obtain ⟨z, hz, hz0, hzc⟩ := hrb.num (i := k) (by rw [HRel.out.1]; omega)
                  have hzf := hrb.frozen k
                  have hGa : G < wa.heap.size := Nat.lt_of_lt_of_le hrow.lt (Nat.le_trans hbw4.size hbia.size)
                  have hb3b := Hbw4.out.trans (hbib.mono Hbw4.out.size)
                  clear hwr hbb hbib hbia Hpa HB8 hb9 hba hbi8
                  go_wp2_with fail
                  go_roundw
                  case rel =>
                    have hd := digit_exact (R := R') (B := Y) (d := d) (by rw [Nat.mul_comm]; exact Hle.out) hdY.out
                    have hw := Hwr.out.setFar (p := ⟨G, k, none⟩) hGa (.int .u32 (d : Int))
                    refine ⟨k, Lq.set k d, R' - Y * d, wa.heap.size, _, by omega, by go_num, hrb.setNum k d _ rfl, hw.isN, .inl hGa, Nat.le_trans hG3 (Nat.le_of_lt hGa), Nat.le_refl _, hb3b.setCell hG3 _, ?_⟩
                    refine ⟨by rw [List.length_set]; exact HRel.out.1, zcc HRel.out.2.1 (by omega), by rw [Nat.mul_comm]; exact hd.1, ?_, fun _ => hw.mono hGa⟩
                    rw [Nat.mul_comm Y d]
                    exact over_step (by rw [Hm.out]; omega) (by rw [HRel.out.1]; omega) HRel.out.2.2.2.1 hRe.out (by rw [Nat.mul_comm]; exact Hle.out)
                  case measure => simp [intOf]
theorem rover_f {w : World} {va vb : Value} {x y : Nat} (ha : IsN w 0 w.heap.size va x) (hb : IsN w 0 w.heap.size vb y) (hy0 : 0 < y) (hx9 : (lim x).length ≤ 2000000000) :
    Calls Tryd.prog 114 #[va, vb] w fun e w' => (∃ q r, e = .returned (.tuple #[q, r]) ∧ IsN w' w.heap.size w'.heap.size q (x / y) ∧ IsN w' 0 w'.heap.size r (x % y)) ∧ Below w.heap.size w w' := by
  rcases Nat.lt_or_ge x y with h | h
  · exact rover_smallF ha hb h
  · exact rover_longF ha hb h hy0 hx9
theorem rover_n {w : World} {va vb : Value} {x y : Nat} (ha : IsN w 0 w.heap.size va x) (hb : IsN w 0 w.heap.size vb y) (hy0 : 0 < y) (hx9 : (lim x).length ≤ 2000000000) :
    Calls Tryd.prog 114 #[va, vb] w fun e w' => (∃ q r, e = .returned (.tuple #[q, r]) ∧ IsN w' 0 w'.heap.size q (x / y) ∧ IsN w' 0 w'.heap.size r (x % y)) ∧ Below w.heap.size w w' :=
  (rover_f ha hb hy0 hx9).mono fun e w' ⟨⟨q, r, he, hq, hr⟩, hw⟩ => ⟨⟨q, r, he, hq.wide (Nat.zero_le _) (Nat.le_refl _), hr⟩, hw⟩
theorem lim_pos1 {Y : Nat} (h : 0 < Y) : 1 ≤ (lim Y).length := by
  have := lim_nil_iff (n := Y)
  omega
set_option maxHeartbeats 400000 in
theorem rcommon_n {w : World} {va vb : Value} {x y : Nat} (ha : IsN w 0 w.heap.size va x) (hb : IsN w 0 w.heap.size vb y) (hx : (lim x).length ≤ 2000000000) (hy : (lim y).length ≤ 2000000000) :
    Calls Tryd.prog 113 #[va, vb] w fun e w' => (∃ v, e = .returned v ∧ IsN w' 0 w'.heap.size v (Nat.gcd x y)) ∧ Below w.heap.size w w' := by
  have Ha := Lib.hid ha
  have Hb := Lib.hid hb
  obtain ⟨A, c, rfl, _, _, _⟩ := ha
  obtain ⟨B, d, rfl, _, _, _⟩ := hb
  go_enter Tryd.func113, Tryd.ntmps113
  go_wp2_with fail
  go_loopw [0, 1] (fun v0 v1 wr => ∃ X Y : Nat, IsN wr 0 wr.heap.size v0 X ∧ IsN wr 0 wr.heap.size v1 Y ∧ Below w.heap.size w wr ∧ Hid (Nat.gcd X Y = Nat.gcd x y ∧ (lim X).length ≤ 2000000000 ∧ (lim Y).length ≤ 2000000000)) (fun _ v1 wr => numOf wr v1)
  case atStart => exact ⟨x, y, Ha.out, Hb.out, Below.refl _ _, rfl, hx, hy⟩
  case round =>
    obtain ⟨X, Y, hX, hY, hbw, hrel⟩ := hrel
    have HX := Lib.hid hX
    have HY := Lib.hid hY
    obtain ⟨A1, c1, rfl, _, _, _⟩ := hX
    obtain ⟨B1, d1, rfl, _, _, _⟩ := hY
    rcases Nat.eq_zero_or_pos Y with h0 | h0
    · have hl0 : (lim Y).length = 0 := by rw [h0, zbd]; rfl
      have Hg : Hid (X = Nat.gcd x y) := by
        have := hrel.out.1
        rw [h0, Nat.gcd_zero_right] at this
        exact this
      clear hrel h0
      go_wp2_with fail
      go_ret
      refine ⟨⟨_, rfl, ?_⟩, hbw⟩
      rw [← Hg.out]
      exact HX.out
    · have hl0 := lim_pos1 h0
      have H0 := Lib.hid h0
      clear h0
      go_wp2_with fail
      refine (rover_n HX.out HY.out H0.out hrel.out.2.1).mono ?_
      rintro e w1 ⟨⟨q, r, rfl, _, hr⟩, hb1⟩
      have Hr := Lib.hid hr
      have HY1 := Lib.hid (HY.out.up hb1)
      clear hr
      go_wp2_with fail
      go_roundw
      case rel =>
        refine ⟨Y, X % Y, HY1.out, Hr.out, zej hbw hb1, ?_, hrel.out.2.2, Nat.le_trans (zas (Nat.le_of_lt (Nat.mod_lt _ H0.out))) hrel.out.2.2⟩
        rw [← hrel.out.1, Nat.gcd_comm X Y, Nat.gcd_rec Y X, Nat.gcd_comm]
      case measure =>
        show numOf w1 r < numOf wr (.slice B1 (lim Y).length d1)
        rw [numOf_eq Hr.out, numOf_eq HY.out]
        exact Nat.mod_lt _ H0.out
end Go.Proofs.YtjkgdggkgljdoaaDoor
