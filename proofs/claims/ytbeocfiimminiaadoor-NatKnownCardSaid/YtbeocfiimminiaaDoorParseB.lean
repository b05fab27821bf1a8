/-
  The contract of package nat's Parse at a text that is a number.
-/
import Derived.Test.YtbeocfiimminiaaDoorParseA
namespace Go.Proofs.YtbeocfiimminiaaDoor
open Go.RowKit
set_option linter.unusedVariables false

theorem zero_text {s : ByteArray} (h : s.toList = [48]) : s.size = 1 ∧ byt s 0 = 48 := by
  rw [ByteArray.toList_eq] at h
  have h1 : s.size = 1 := by
    have : s.data.toList.length = 1 := by rw [h]; rfl
    simpa using this
  refine ⟨h1, ?_⟩
  rw [← byt_list (by omega), h]
  rfl
theorem text_zero {s : ByteArray} (h1 : s.size = 1) (h2 : byt s 0 = 48) : s.toList = [48] := by
  rw [ByteArray.toList_eq]
  rw [← byt_list (by omega)] at h2
  have hl : s.data.toList.length = 1 := by simpa using h1
  match he : s.data.toList, hl with
  | [b], _ =>
    rw [he] at h2
    simp only [List.getD_cons_zero] at h2
    have : b = 48 := UInt8.toNat_inj.1 h2
    rw [this]

set_option maxRecDepth 100000 in
set_option maxHeartbeats 2000000 in
theorem nparse_ok {w : World} (s : ByteArray) (hs : s.size ≤ 9216) (hg : Good s s.size) (h0 : 0 < s.size) (hc : s.size = 1 ∨ byt s 0 ≠ 48) :
    Calls Tryd.prog 12 #[.string s] w fun e w' => (∃ v, e = .returned (.tuple #[v, .agg #[.int .i64 0, .int .i64 0]]) ∧ IsN w' w.heap.size w'.heap.size v (nv s 0 s.size)) ∧ Below w.heap.size w w' := by
  have Hg := Lib.hid hg
  clear hg
  have Hc := Lib.hid hc
  clear hc
  have hne : ((s.size : Int) == 0) = false := beq_eq_false_iff_ne.2 (by omega)
  go_enter Tryd.func12, Tryd.ntmps12
  go_wp2
  go_loop [16] (fun v => ∃ k : Nat, k ≤ s.size ∧ v = .int .i64 (k : Int)) (fun v => s.size - (intOf v).toNat)
  case atStart => exact ⟨0, Nat.zero_le _, rfl⟩
  case round =>
    obtain ⟨k, hk, rfl⟩ := hrel
    rcases Nat.lt_or_ge k s.size with hlt | hge
    · obtain ⟨y, hy, hy0, hy1, hyr⟩ := byt_atom (s := s) (k := k) hlt
      have h1 := Hg.out k hlt
      have hy2 : 48 ≤ y := by have := hy.out; omega
      have hy3 : y ≤ 57 := by have := hy.out; omega
      clear h1
      go_wp2
      go_round
      case rel => exact ⟨k + 1, by omega, by go_num⟩
      case measure => simp [intOf]; omega
    · obtain rfl : k = s.size := by omega
      obtain ⟨y, hy, hy0, hy1, hyr⟩ := byt_atom (s := s) (k := 0) (by omega)
      have hcase : (s.size ≤ 1) ∨ (1 < s.size ∧ (y == 48) = false) := by
        rcases Nat.lt_or_ge 1 s.size with h | h
        · refine .inr ⟨h, beq_eq_false_iff_ne.2 ?_⟩
          have := Hc.out
          have := hy.out
          omega
        · exact .inl h
      have HB : Hid (Below (w.heap.size + 1) (w.alloc (.cells #[.int .i64 0, .int .i64 0] 30)) (w.alloc (.cells #[.int .i64 0, .int .i64 0] 30))) := Below.refl _ _
      have HF := Lib.hid (two_new w (.int .i64 0) (.int .i64 0) 30)
      have H0 := Lib.hid ((Below.refl w.heap.size w).alloc (Nat.le_refl _) (.cells #[.int .i64 0, .int .i64 0] 30))
      rcases hcase with hs1 | ⟨hs1, hy48⟩
      · go_wp2
        clear hyr
        go_loopw [5, 6] (fun v ev wr => ∃ (L : List Nat) (z : Int), ev = .int .i64 z ∧ z ≤ s.size ∧ -9 < z ∧ Own wr (w.heap.size + 1) 34 v (cel .u32 L) ∧ Below (w.heap.size + 1) (w.alloc (.cells #[.int .i64 0, .int .i64 0] 30)) wr ∧
            Hid (nv s 0 s.size = val L + pw L.length * nv s 0 z.toNat ∧ Lo L ∧ z = s.size - 9 * L.length)) (fun _ ev _ => (intOf ev + 9).toNat)
        case atStart => exact ⟨[], s.size, rfl, Int.le_refl _, by omega, Own.nil _ _ _, HB.out, by simp [val, pw], lo_nil, by simp⟩
        case round =>
          obtain ⟨L, z, rfl, hz1, hz2, hown, hbw, hrel⟩ := hrel
          have hBw : w.heap.size + 1 ≤ wr.heap.size := by have := hbw.size; rwa [World.size_alloc] at this
          rcases Int.lt_or_le 0 z with hz0 | hz0
          · obtain ⟨e, rfl⟩ := Int.eq_ofNat_of_zero_le (Int.le_of_lt hz0)
            have HR := hrel
            clear hrel
            obtain ⟨wo, rfl⟩ : ∃ wo : World, wo = wr := ⟨_, rfl⟩
            have he8 : e ≤ 8 := by omega
            go_wp2_with (refine wp_subBytes (o := ⟨some 58, _, _, _, _, _⟩) rfl 9 51 5 _ rfl Tryd.underlying9 Tryd.underlying5 Tryd.underlying51 (s := s) (lo := 0) (hi := e) (n := e) (by rfl) (by omega) (by omega) ?_; intro g c w2 hg hb2 hz2 hc2)
            have hbw2 := hbw.trans (hb2.mono hBw)
            have hown2 := hown.below hb2
            have hz2' : w.heap.size + 1 ≤ w2.heap.size := by have := hbw2.size; rwa [World.size_alloc] at this
            have Hc2 := Lib.hid hc2
            clear hc2
            go_loop [7, 60] (fun xv i => ∃ j : Nat, j ≤ e ∧ i = .int .i64 (j : Int) ∧ xv = .int .u32 (nv s 0 j : Nat)) (fun _ i => e - (intOf i).toNat)
            case atStart => exact ⟨0, Nat.zero_le _, rfl, rfl⟩
            case round =>
              obtain ⟨j, hj, rfl, rfl⟩ := hrel
              rcases Nat.lt_or_ge j e with hjl | hjg
              · obtain ⟨y, hy, hy0, hyc⟩ : ∃ y : Int, Hid (y = byt s (0 + j)) ∧ 0 ≤ y ∧ w2.cell? ⟨g, j, none⟩ = some (.int .u8 y) := ⟨_, rfl, by omega, Hc2.out j hjl⟩
                have hgd := Hg.out (0 + j) (by omega)
                have hy48 : 48 ≤ y := by have := hy.out; omega
                have hy57 : y ≤ 57 := by have := hy.out; omega
                have hnl : nv s 0 j < tn j := nv_lt (fun i hi => Hg.out i (by omega))
                have hnl2 : tn j ≤ tn 8 := tn_mono (by omega)
                obtain ⟨xq, hxq, hxq0, hxq1⟩ : ∃ xq : Int, Hid ((nv s 0 j : Int) = xq) ∧ 0 ≤ xq ∧ xq ≤ 99999999 := ⟨_, rfl, by omega, by have : tn 8 = 100000000 := rfl; omega⟩
                rw [hxq.out]
                clear hgd hnl hnl2
                go_wp2
                go_round
                case rel =>
                  refine ⟨j + 1, by omega, by go_num, int_eq ?_⟩
                  have h1 := hxq.out
                  have h2 := hy.out
                  rw [nv]
                  omega
                case measure => simp [intOf]; omega
              · obtain rfl : j = e := by omega
                obtain ⟨xq, hxq, hxq0, hxq1⟩ : ∃ xq : Int, Hid (xq = (nv s 0 j : Nat)) ∧ 0 ≤ xq ∧ xq ≤ 999999999 := ⟨_, rfl, by omega, by
                  have h1 : nv s 0 j < tn j := nv_lt (fun i hi => Hg.out i (by omega))
                  have h2 : tn j ≤ tn 9 := tn_mono (by omega)
                  have : tn 9 = 1000000000 := rfl
                  omega⟩
                rw [← hxq.out]
                have hLl : Hid ((cel .u32 L).length ≤ 1024) := by rw [Hid, cel_length]; have := HR.out.2.2; omega
                go_wp2_with (at_builtin; refine wp_app1 elN rfl _ _ rfl rfl hown2 rfl rfl (by have := hLl.out; omega) hz2' ?_; intro v3 w3 hown3 hb3 hz3)
                go_roundw
                case rel =>
                  rw [cel_snoc .u32 L (nv s 0 j) _ hxq.out] at hown3
                  refine ⟨L ++ [nv s 0 j], (j : Int) - 9, rfl, by omega, by omega, hown3, hbw2.trans hb3, ?_, ?_, ?_⟩
                  · have h1 := HR.out.1
                    rw [Int.toNat_natCast] at h1
                    rw [show ((j : Int) - 9).toNat = 0 by omega, nv, Nat.mul_zero, Nat.add_zero]
                    exact parse_last h1
                  · rw [lo_append]
                    exact ⟨HR.out.2.1, by intro x hx; simp at hx; subst hx; have := hxq.out; omega⟩
                  · rw [List.length_append, List.length_singleton]
                    have := HR.out.2.2
                    omega
                case measure => simp [intOf]; omega
          · have hv : Hid (nv s 0 s.size = val L) := by
              have := hrel.out.1
              rwa [show z.toNat = 0 by omega, nv, Nat.mul_zero, Nat.add_zero] at this
            have HR := hrel
            clear hrel
            have hL0 : L ≠ [] := by
              rintro rfl
              have := HR.out.2.2
              simp at this
              omega
            have hLn : Hid (lim (nv s 0 s.size) = L ∨ nv s 0 s.size = 0) := by
              by_cases h48 : byt s 0 = 48
              · right
                have h1 := Hc.out
                have h2 : s.size = 1 := by omega
                rw [h2]
                simp [nv, h48]
              · left
                rw [hv.out]
                refine lim_val_top HR.out.2.1 hL0 ?_
                rw [← hv.out]
                obtain ⟨q, hq⟩ : ∃ q, s.size = q + 1 := ⟨s.size - 1, by omega⟩
                have h1 := nv_ge (s := s) (n := q) (by rw [← hq]; exact Hg.out) h48
                rw [← hq] at h1
                refine Nat.le_trans ?_ h1
                rw [← tn_nine]
                exact tn_mono (by have := HR.out.2.2; omega)
            have hf0 := (hbw.cell (p := ⟨w.heap.size, 0, none⟩) (by show w.heap.size < w.heap.size + 1; omega)).trans HF.out.1
            have hf1 := (hbw.cell (p := ⟨w.heap.size, 1, none⟩) (by show w.heap.size < w.heap.size + 1; omega)).trans HF.out.2
            have hz0' : wr.frozen? ⟨w.heap.size, 0, none⟩ = false := by rw [hbw.frozen (p := ⟨w.heap.size, 0, none⟩) (by show w.heap.size < w.heap.size + 1; omega)]; exact (Row.frozen (xs := [.int .i64 0, .int .i64 0]) (heap_alloc_new w _) 0)
            have hz1' : wr.frozen? ⟨w.heap.size, 1, none⟩ = false := by rw [hbw.frozen (p := ⟨w.heap.size, 1, none⟩) (by show w.heap.size < w.heap.size + 1; omega)]; exact (Row.frozen (xs := [.int .i64 0, .int .i64 0]) (heap_alloc_new w _) 1)
            have hown' := Lib.hid hown
            have hbw' := Lib.hid hbw
            clear hown hbw
            cases h48 : (s.toList == [48]) with
            | true =>
              have hz := zero_text (s := s) (by simpa using h48)
              have hn0 : Hid (nv s 0 s.size = 0) := by rw [Hid, hz.1]; simp [nv, hz.2]
              clear hz
              go_wp2
              refine bodyPost_ret (v := .tuple #[.slice none 0 0, .agg #[.int .i64 0, .int .i64 0]]) (by simp [results, Tryd.results12, go_sem, hf0, hf1]) rfl ⟨⟨_, rfl, ?_⟩, ?_⟩
              · rw [hn0.out]; exact IsN.zero
              · exact ((H0.out.trans (hbw'.out.mono (by omega))).setCell (Nat.le_refl _) _).setCell (Nat.le_refl _) _
            | false =>
              have hLe : Hid (lim (nv s 0 s.size) = L) := by
                rcases hLn.out with h | h
                · exact h
                · exfalso
                  have h1 : s.size = 1 ∧ byt s 0 = 48 := by
                    have hc := Hc.out
                    have hb := Hg.out 0 h0
                    by_cases h2 : s.size = 1
                    · refine ⟨h2, ?_⟩
                      rw [h2] at h
                      simp [nv] at h
                      omega
                    · exfalso
                      obtain ⟨q, hq⟩ : ∃ q, s.size = q + 1 := ⟨s.size - 1, by omega⟩
                      have h3 := nv_ge (s := s) (n := q) (by rw [← hq]; exact Hg.out) (by omega)
                      rw [← hq, h] at h3
                      have := tn_pos q
                      omega
                  rw [text_zero h1.1 h1.2] at h48
                  simp at h48
              go_wp2
              refine bodyPost_ret (v := .tuple #[u5, .agg #[.int .i64 0, .int .i64 0]]) (by simp [results, Tryd.results12, go_sem, hf0, hf1]) rfl ⟨⟨_, rfl, ?_⟩, ?_⟩
              · unfold IsN
                rw [hLe.out]
                have h1 := hown'.out.isL
                refine (h1.keep (w' := _) fun p hp1 hp2 => ?_).wide (by omega) (by simp [World.setCell])
                rw [World.cell?_setCell_other _ _ _ _ (fun e => by have h3 := congrArg Addr.block e; simp only at h3; omega), World.cell?_setCell_other _ _ _ _ (fun e => by have h3 := congrArg Addr.block e; simp only at h3; omega)]
              · exact ((H0.out.trans (hbw'.out.mono (by omega))).setCell (Nat.le_refl _) _).setCell (Nat.le_refl _) _
      · go_wp2
        clear hs1 hy48 hyr
        go_loopw [5, 6] (fun v ev wr => ∃ (L : List Nat) (z : Int), ev = .int .i64 z ∧ z ≤ s.size ∧ -9 < z ∧ Own wr (w.heap.size + 1) 34 v (cel .u32 L) ∧ Below (w.heap.size + 1) (w.alloc (.cells #[.int .i64 0, .int .i64 0] 30)) wr ∧
            Hid (nv s 0 s.size = val L + pw L.length * nv s 0 z.toNat ∧ Lo L ∧ z = s.size - 9 * L.length)) (fun _ ev _ => (intOf ev + 9).toNat)
        case atStart => exact ⟨[], s.size, rfl, Int.le_refl _, by omega, Own.nil _ _ _, HB.out, by simp [val, pw], lo_nil, by simp⟩
        case round =>
          obtain ⟨L, z, rfl, hz1, hz2, hown, hbw, hrel⟩ := hrel
          have hBw : w.heap.size + 1 ≤ wr.heap.size := by have := hbw.size; rwa [World.size_alloc] at this
          rcases Int.lt_or_le 0 z with hz0 | hz0
          · obtain ⟨e, rfl⟩ := Int.eq_ofNat_of_zero_le (Int.le_of_lt hz0)
            have HR := hrel
            clear hrel
            obtain ⟨wo, rfl⟩ : ∃ wo : World, wo = wr := ⟨_, rfl⟩
            rcases Nat.lt_or_ge e 10 with he9 | he9
            · have he8 : e ≤ 9 := by omega
              go_wp2_with (refine wp_subBytes (o := ⟨some 58, _, _, _, _, _⟩) rfl 9 51 5 _ rfl Tryd.underlying9 Tryd.underlying5 Tryd.underlying51 (s := s) (lo := 0) (hi := e) (n := e) (by rfl) (by omega) (by omega) ?_; intro g c w2 hg hb2 hz2 hc2)
              have hbw2 := hbw.trans (hb2.mono hBw)
              have hown2 := hown.below hb2
              have hz2' : w.heap.size + 1 ≤ w2.heap.size := by have := hbw2.size; rwa [World.size_alloc] at this
              have Hc2 := Lib.hid hc2
              clear hc2
              go_loop [7, 60] (fun xv i => ∃ j : Nat, j ≤ e ∧ i = .int .i64 (j : Int) ∧ xv = .int .u32 (nv s 0 j : Nat)) (fun _ i => e - (intOf i).toNat)
              case atStart => exact ⟨0, Nat.zero_le _, rfl, rfl⟩
              case round =>
                obtain ⟨j, hj, rfl, rfl⟩ := hrel
                rcases Nat.lt_or_ge j e with hjl | hjg
                · obtain ⟨y, hy, hy0, hyc⟩ : ∃ y : Int, Hid (y = byt s (0 + j)) ∧ 0 ≤ y ∧ w2.cell? ⟨g, j, none⟩ = some (.int .u8 y) := ⟨_, rfl, by omega, Hc2.out j hjl⟩
                  have hgd := Hg.out (0 + j) (by omega)
                  have hy48 : 48 ≤ y := by have := hy.out; omega
                  have hy57 : y ≤ 57 := by have := hy.out; omega
                  have hnl : nv s 0 j < tn j := nv_lt (fun i hi => Hg.out i (by omega))
                  have hnl2 : tn j ≤ tn 8 := tn_mono (by omega)
                  obtain ⟨xq, hxq, hxq0, hxq1⟩ : ∃ xq : Int, Hid ((nv s 0 j : Int) = xq) ∧ 0 ≤ xq ∧ xq ≤ 99999999 := ⟨_, rfl, by omega, by have : tn 8 = 100000000 := rfl; omega⟩
                  rw [hxq.out]
                  clear hgd hnl hnl2
                  go_wp2
                  go_round
                  case rel =>
                    refine ⟨j + 1, by omega, by go_num, int_eq ?_⟩
                    have h1 := hxq.out
                    have h2 := hy.out
                    rw [nv]
                    omega
                  case measure => simp [intOf]; omega
                · obtain rfl : j = e := by omega
                  obtain ⟨xq, hxq, hxq0, hxq1⟩ : ∃ xq : Int, Hid (xq = (nv s 0 j : Nat)) ∧ 0 ≤ xq ∧ xq ≤ 999999999 := ⟨_, rfl, by omega, by
                    have h1 : nv s 0 j < tn j := nv_lt (fun i hi => Hg.out i (by omega))
                    have h2 : tn j ≤ tn 9 := tn_mono (by omega)
                    have : tn 9 = 1000000000 := rfl
                    omega⟩
                  rw [← hxq.out]
                  have hLl : Hid ((cel .u32 L).length ≤ 1024) := by rw [Hid, cel_length]; have := HR.out.2.2; omega
                  go_wp2_with (at_builtin; refine wp_app1 elN rfl _ _ rfl rfl hown2 rfl rfl (by have := hLl.out; omega) hz2' ?_; intro v3 w3 hown3 hb3 hz3)
                  go_roundw
                  case rel =>
                    rw [cel_snoc .u32 L (nv s 0 j) _ hxq.out] at hown3
                    refine ⟨L ++ [nv s 0 j], (j : Int) - 9, rfl, by omega, by omega, hown3, hbw2.trans hb3, ?_, ?_, ?_⟩
                    · have h1 := HR.out.1
                      rw [Int.toNat_natCast] at h1
                      rw [show ((j : Int) - 9).toNat = 0 by omega, nv, Nat.mul_zero, Nat.add_zero]
                      exact parse_last h1
                    · rw [lo_append]
                      exact ⟨HR.out.2.1, by intro x hx; simp at hx; subst hx; have := hxq.out; omega⟩
                    · rw [List.length_append, List.length_singleton]
                      have := HR.out.2.2
                      omega
                  case measure => simp [intOf]; omega
            · obtain ⟨lo, rfl⟩ : ∃ lo, e = lo + 9 := ⟨e - 9, by omega⟩
              have hlo1 : 1 ≤ lo := by omega
              clear he9
              go_wp2_with (refine wp_subBytes (o := ⟨some 58, _, _, _, _, _⟩) rfl 9 51 5 _ rfl Tryd.underlying9 Tryd.underlying5 Tryd.underlying51 (s := s) (lo := lo) (hi := lo + 9) (n := 9) (by rfl) (by omega) (by omega) ?_; intro g c w2 hg hb2 hz2 hc2)
              have hbw2 := hbw.trans (hb2.mono hBw)
              have hown2 := hown.below hb2
              have hz2' : w.heap.size + 1 ≤ w2.heap.size := by have := hbw2.size; rwa [World.size_alloc] at this
              have Hc2 := Lib.hid hc2
              clear hc2
              go_loop [7, 60] (fun xv i => ∃ j : Nat, j ≤ 9 ∧ i = .int .i64 (j : Int) ∧ xv = .int .u32 (nv s lo j : Nat)) (fun _ i => 9 - (intOf i).toNat)
              case atStart => exact ⟨0, Nat.zero_le _, rfl, rfl⟩
              case round =>
                obtain ⟨j, hj, rfl, rfl⟩ := hrel
                rcases Nat.lt_or_ge j 9 with hjl | hjg
                · obtain ⟨y, hy, hy0, hyc⟩ : ∃ y : Int, Hid (y = byt s (lo + j)) ∧ 0 ≤ y ∧ w2.cell? ⟨g, j, none⟩ = some (.int .u8 y) := ⟨_, rfl, by omega, Hc2.out j hjl⟩
                  have hgd := Hg.out (lo + j) (by omega)
                  have hy48 : 48 ≤ y := by have := hy.out; omega
                  have hy57 : y ≤ 57 := by have := hy.out; omega
                  have hnl : nv s lo j < tn j := nv_lt (fun i hi => Hg.out i (by omega))
                  have hnl2 : tn j ≤ tn 8 := tn_mono (by omega)
                  obtain ⟨xq, hxq, hxq0, hxq1⟩ : ∃ xq : Int, Hid ((nv s lo j : Int) = xq) ∧ 0 ≤ xq ∧ xq ≤ 99999999 := ⟨_, rfl, by omega, by have : tn 8 = 100000000 := rfl; omega⟩
                  rw [hxq.out]
                  clear hgd hnl hnl2
                  go_wp2
                  go_round
                  case rel =>
                    refine ⟨j + 1, by omega, by go_num, int_eq ?_⟩
                    have h1 := hxq.out
                    have h2 := hy.out
                    rw [nv]
                    omega
                  case measure => simp [intOf]; omega
                · obtain rfl : j = 9 := by omega
                  obtain ⟨xq, hxq, hxq0, hxq1⟩ : ∃ xq : Int, Hid (xq = (nv s lo 9 : Nat)) ∧ 0 ≤ xq ∧ xq ≤ 999999999 := ⟨_, rfl, by omega, by
                    have h1 : nv s lo 9 < tn 9 := nv_lt (fun i hi => Hg.out i (by omega))
                    have h2 : tn 9 ≤ tn 9 := Nat.le_refl _
                    have : tn 9 = 1000000000 := rfl
                    omega⟩
                  rw [← hxq.out]
                  have hLl : Hid ((cel .u32 L).length ≤ 1024) := by rw [Hid, cel_length]; have := HR.out.2.2; omega
                  go_wp2_with (at_builtin; refine wp_app1 elN rfl _ _ rfl rfl hown2 rfl rfl (by have := hLl.out; omega) hz2' ?_; intro v3 w3 hown3 hb3 hz3)
                  go_roundw
                  case rel =>
                    rw [cel_snoc .u32 L (nv s lo 9) _ hxq.out] at hown3
                    refine ⟨L ++ [nv s lo 9], (lo : Int), int_eq (by omega), by omega, by omega, hown3, hbw2.trans hb3, ?_, ?_, ?_⟩
                    · have h1 := HR.out.1
                      rw [Int.toNat_natCast] at h1
                      have h4 := parse_step (show 9 ≤ lo + 9 by omega) h1
                      rw [Nat.add_sub_cancel] at h4
                      exact h4
                    · rw [lo_append]
                      exact ⟨HR.out.2.1, by intro x hx; simp at hx; subst hx; have := hxq.out; omega⟩
                    · rw [List.length_append, List.length_singleton]
                      have := HR.out.2.2
                      omega
                  case measure => simp [intOf]; omega
          · have hv : Hid (nv s 0 s.size = val L) := by
              have := hrel.out.1
              rwa [show z.toNat = 0 by omega, nv, Nat.mul_zero, Nat.add_zero] at this
            have HR := hrel
            clear hrel
            have hL0 : L ≠ [] := by
              rintro rfl
              have := HR.out.2.2
              simp at this
              omega
            have hLn : Hid (lim (nv s 0 s.size) = L ∨ nv s 0 s.size = 0) := by
              by_cases h48 : byt s 0 = 48
              · right
                have h1 := Hc.out
                have h2 : s.size = 1 := by omega
                rw [h2]
                simp [nv, h48]
              · left
                rw [hv.out]
                refine lim_val_top HR.out.2.1 hL0 ?_
                rw [← hv.out]
                obtain ⟨q, hq⟩ : ∃ q, s.size = q + 1 := ⟨s.size - 1, by omega⟩
                have h1 := nv_ge (s := s) (n := q) (by rw [← hq]; exact Hg.out) h48
                rw [← hq] at h1
                refine Nat.le_trans ?_ h1
                rw [← tn_nine]
                exact tn_mono (by have := HR.out.2.2; omega)
            have hf0 := (hbw.cell (p := ⟨w.heap.size, 0, none⟩) (by show w.heap.size < w.heap.size + 1; omega)).trans HF.out.1
            have hf1 := (hbw.cell (p := ⟨w.heap.size, 1, none⟩) (by show w.heap.size < w.heap.size + 1; omega)).trans HF.out.2
            have hz0' : wr.frozen? ⟨w.heap.size, 0, none⟩ = false := by rw [hbw.frozen (p := ⟨w.heap.size, 0, none⟩) (by show w.heap.size < w.heap.size + 1; omega)]; exact (Row.frozen (xs := [.int .i64 0, .int .i64 0]) (heap_alloc_new w _) 0)
            have hz1' : wr.frozen? ⟨w.heap.size, 1, none⟩ = false := by rw [hbw.frozen (p := ⟨w.heap.size, 1, none⟩) (by show w.heap.size < w.heap.size + 1; omega)]; exact (Row.frozen (xs := [.int .i64 0, .int .i64 0]) (heap_alloc_new w _) 1)
            have hown' := Lib.hid hown
            have hbw' := Lib.hid hbw
            clear hown hbw
            cases h48 : (s.toList == [48]) with
            | true =>
              have hz := zero_text (s := s) (by simpa using h48)
              have hn0 : Hid (nv s 0 s.size = 0) := by rw [Hid, hz.1]; simp [nv, hz.2]
              clear hz
              go_wp2
              refine bodyPost_ret (v := .tuple #[.slice none 0 0, .agg #[.int .i64 0, .int .i64 0]]) (by simp [results, Tryd.results12, go_sem, hf0, hf1]) rfl ⟨⟨_, rfl, ?_⟩, ?_⟩
              · rw [hn0.out]; exact IsN.zero
              · exact ((H0.out.trans (hbw'.out.mono (by omega))).setCell (Nat.le_refl _) _).setCell (Nat.le_refl _) _
            | false =>
              have hLe : Hid (lim (nv s 0 s.size) = L) := by
                rcases hLn.out with h | h
                · exact h
                · exfalso
                  have h1 : s.size = 1 ∧ byt s 0 = 48 := by
                    have hc := Hc.out
                    have hb := Hg.out 0 h0
                    by_cases h2 : s.size = 1
                    · refine ⟨h2, ?_⟩
                      rw [h2] at h
                      simp [nv] at h
                      omega
                    · exfalso
                      obtain ⟨q, hq⟩ : ∃ q, s.size = q + 1 := ⟨s.size - 1, by omega⟩
                      have h3 := nv_ge (s := s) (n := q) (by rw [← hq]; exact Hg.out) (by omega)
                      rw [← hq, h] at h3
                      have := tn_pos q
                      omega
                  rw [text_zero h1.1 h1.2] at h48
                  simp at h48
              go_wp2
              refine bodyPost_ret (v := .tuple #[u5, .agg #[.int .i64 0, .int .i64 0]]) (by simp [results, Tryd.results12, go_sem, hf0, hf1]) rfl ⟨⟨_, rfl, ?_⟩, ?_⟩
              · unfold IsN
                rw [hLe.out]
                have h1 := hown'.out.isL
                refine (h1.keep (w' := _) fun p hp1 hp2 => ?_).wide (by omega) (by simp [World.setCell])
                rw [World.cell?_setCell_other _ _ _ _ (fun e => by have h3 := congrArg Addr.block e; simp only at h3; omega), World.cell?_setCell_other _ _ _ _ (fun e => by have h3 := congrArg Addr.block e; simp only at h3; omega)]
              · exact ((H0.out.trans (hbw'.out.mono (by omega))).setCell (Nat.le_refl _) _).setCell (Nat.le_refl _) _
end Go.Proofs.YtbeocfiimminiaaDoor
