/-
  The contract of package long's lead: the first digits of two numbers.
-/
import Derived.Test.YtbeocfiimminiaaDoorPlainLead
import Derived.Test.YtbeocfiimminiaaDoorLongA
import Derived.Laws.EntriesVeiled
namespace Go.Proofs.YtbeocfiimminiaaDoor
open Go.RowKit
set_option linter.unusedVariables false

set_option maxHeartbeats 400000 in
/-- The limb at a place, 0 behind the end. -/
theorem limb_n {w : World} {va : Value} {y lo hi Bl : Nat} (i : Int) (h0 : 0 ≤ i) (h9 : i ≤ 4294967296) (ha : IsN w lo hi va y) (hc : w.cell? ⟨Bl, 0, none⟩ = some va) :
    Calls Tryd.prog 70 #[.int .i64 i, .pointer (some ⟨Bl, 0, none⟩)] w fun e w' => e = .returned (.int .u64 ((lim y).getD i.toNat 0 : Nat)) ∧ w' = w := by
  have hal := ha.length_le
  unfold maxLen at hal
  obtain ⟨A, c, rfl, _, _, hA⟩ := ha
  obtain ⟨k, rfl⟩ := Int.eq_ofNat_of_zero_le h0
  rw [Int.toNat_natCast]
  generalize hl : lim y = l at *
  have Hl := Lib.hid hl
  clear hl
  rcases Nat.lt_or_ge k l.length with h | h
  · obtain ⟨b, off, rfl, _, _, hca⟩ := hA (cel_ne (j := k) h)
    obtain ⟨x, hx, hx0, hck⟩ := cell_at (j := k) hca h
    have hx9 : x ≤ 999999999 := by
      have := hx.out
      have := lo_getD (lo_lim y) k
      rw [Hl.out] at this
      omega
    clear hca
    go_enter Tryd.func70, Tryd.ntmps70
    go_wp2
    go_ret
    exact ⟨ret_int hx.out, rfl⟩
  · have H := Lib.hid (getD_end h)
    go_enter Tryd.func70, Tryd.ntmps70
    go_wp2
    go_ret
    exact ⟨ret_int (by rw [H.out]; rfl), rfl⟩

theorem IsN.drewB {w : World} {lo hi : Nat} {v : Value} {x : Nat} (h : IsN w lo hi v x) (n : Nat) : IsN (w.drewN n) lo hi v x := h

set_option maxRecDepth 100000 in
set_option maxHeartbeats 1000000 in
theorem lead1_n {w : World} {va : Value} {y lo hi Bn Bt : Nat} (n t : Int) (ha : IsN w lo hi va y) (hi1 : hi ≤ w.heap.size) (hn0 : 3 ≤ n) (hn9 : n ≤ 4294967296) (ht0 : 1 ≤ t) (ht9 : t ≤ 1000000000) (htop : ((lim y).getD (n - 1).toNat 0 : Int) * t + t ≤ 1000000000)
    (hn : w.cell? ⟨Bn, 0, none⟩ = some (.int .i64 n)) (ht : w.cell? ⟨Bt, 0, none⟩ = some (.int .u64 t)) (hBn : Bn < w.heap.size) (hBt : Bt < w.heap.size) :
    Calls Tryd.prog 69 #[va, .pointer (some ⟨Bn, 0, none⟩), .pointer (some ⟨Bt, 0, none⟩)] w fun e w' => e = .returned (.int .i64 (dig18 y n.toNat t.toNat : Nat)) ∧ Below w.heap.size w w' := by
  have Ha := Lib.hid ha
  obtain ⟨A, c, rfl, _, _, hA⟩ := ha
  have hn' := (World.cell?_alloc_lt w (.cells #[.slice A (lim y).length c] 23) ⟨Bn, 0, none⟩ hBn).trans hn
  have ht' := (World.cell?_alloc_lt w (.cells #[.slice A (lim y).length c] 23) ⟨Bt, 0, none⟩ hBt).trans ht
  have hl' : (w.alloc (.cells #[.slice A (lim y).length c] 23)).cell? ⟨w.heap.size, 0, none⟩ = some (.slice A (lim y).length c) := by
    have := cell_one_new w (.slice A (lim y).length c) 23 0 _ rfl
    rwa [Addr.add_lit] at this
  have HL := Lib.hid (And.intro (Ha.out.below ((Below.refl _ w).alloc (Nat.le_refl _) (.cells #[.slice A (lim y).length c] 23)) hi1) hl')
  clear hl' hn ht
  have hL : ∀ (i : Int), 0 ≤ i → i ≤ 4294967296 → ∀ k, Calls Tryd.prog 70 #[.int .i64 i, .pointer (some ⟨w.heap.size, 0, none⟩)] ((w.alloc (.cells #[.slice A (lim y).length c] 23)).drewN k) fun e w' => e = .returned (.int .u64 ((lim y).getD i.toNat 0 : Nat)) ∧ w' = (w.alloc (.cells #[.slice A (lim y).length c] 23)).drewN k :=
    fun i h0 h9 k => limb_n i h0 h9 (HL.out.1.drewB k) HL.out.2
  obtain ⟨g1, hg1, h1⟩ : ∃ g1 : Int, g1 = ((lim y).getD (n - 1).toNat 0 : Nat) ∧ _ := ⟨_, rfl, hL (n - 1) (by omega) (by omega)⟩
  obtain ⟨g2, hg2, h2⟩ : ∃ g2 : Int, g2 = ((lim y).getD (n - 2).toNat 0 : Nat) ∧ _ := ⟨_, rfl, hL (n - 2) (by omega) (by omega)⟩
  obtain ⟨g3, hg3, h3⟩ : ∃ g3 : Int, g3 = ((lim y).getD (n - 3).toNat 0 : Nat) ∧ _ := ⟨_, rfl, hL (n - 3) (by omega) (by omega)⟩
  rw [← hg1] at h1 htop
  rw [← hg2] at h2
  rw [← hg3] at h3
  have hb1 := lo_getD (lo_lim y) (n - 1).toNat
  have hb2 := lo_getD (lo_lim y) (n - 2).toNat
  have hb3 := lo_getD (lo_lim y) (n - 3).toNat
  have g10 : 0 ≤ g1 := by omega
  have g19 : g1 ≤ 999999999 := by omega
  have g20 : 0 ≤ g2 := by omega
  have g29 : g2 ≤ 999999999 := by omega
  have g30 : 0 ≤ g3 := by omega
  have g39 : g3 ≤ 999999999 := by omega
  have p0 : 0 ≤ (g1 * 1000000000 + g2) * t := Int.mul_nonneg (by omega) (by omega)
  have p1 : (g1 * 1000000000 + g2) * t ≤ 1000000000000000000 := by
    have e : (g1 * 1000000000 + g2) * t = g1 * t * 1000000000 + g2 * t := by grind
    have h := Int.mul_le_mul_of_nonneg_right g29 (show 0 ≤ t by omega)
    rw [e]
    omega
  have p2 : 0 ≤ g3 * t := Int.mul_nonneg g30 (by omega)
  have p3 : g3 * t ≤ 999999999000000000 := by
    have h := Int.mul_le_mul g39 ht9 (by omega) (by omega : (0 : Int) ≤ 999999999)
    omega
  have hfin : Hid ((g1 * 1000000000 + g2) * t + g3 * t / 1000000000 = ((dig18 y n.toNat t.toNat : Nat) : Int)) := by
    obtain ⟨m, rfl⟩ := Int.eq_ofNat_of_zero_le (show 0 ≤ n by omega)
    obtain ⟨s, rfl⟩ := Int.eq_ofNat_of_zero_le (show 0 ≤ t by omega)
    have e1 : ((m : Int) - 1).toNat = m - 1 := by omega
    have e2 : ((m : Int) - 2).toNat = m - 2 := by omega
    have e3 : ((m : Int) - 3).toNat = m - 3 := by omega
    unfold Hid dig18
    rw [hg1, hg2, hg3, e1, e2, e3, Int.toNat_natCast, Int.toNat_natCast]
    simp
  have H1 := Lib.hid h1
  have H2 := Lib.hid h2
  have H3 := Lib.hid h3
  have HC : Hid (∀ k, Below w.heap.size w ((w.alloc (.cells #[.slice A (lim y).length c] 23)).drewN k)) := fun k => below_drewN ((Below.refl _ w).alloc (Nat.le_refl _) _) k
  clear hL h1 h2 h3 hg1 hg2 hg3 hb1 hb2 hb3 htop HL Ha
  go_enter Tryd.func69, Tryd.ntmps69
  go_wp2
  go_quiet ((go_at_call 70; first | (with_reducible exact Calls.quiet_of_same (H1.out _)) | (with_reducible exact Calls.quiet_of_same (H2.out _)) | (with_reducible exact Calls.quiet_of_same (H3.out _))))
  go_wp2
  go_ret
  exact ⟨ret_int hfin.out, HC.out _⟩

def leftT (g : Nat) (w : World) : Nat := match w.cell? ⟨g, 0, none⟩ with
  | some (.int _ t) => 1000000000 - t.toNat
  | _ => 0
theorem leftT_eq {g : Nat} {w : World} {k : IntKind} {t : Int} (h : w.cell? ⟨g, 0, none⟩ = some (.int k t)) : leftT g w = 1000000000 - t.toNat := by unfold leftT; rw [h]

/-- What lead returns. -/
def LeadR (x y : Nat) (e : Ending) : Prop := ∃ S : Nat, 0 < S ∧ e = .returned (.tuple #[.int .i64 (x / S : Nat), .int .i64 (y / S : Nat)]) ∧ x / S ≤ 999999999999999999

set_option maxRecDepth 100000 in
set_option maxHeartbeats 1000000 in
theorem lead_n {w : World} {va vb : Value} {x y lo hi lo' hi' : Nat} (ha : IsN w lo hi va x) (hb : IsN w lo' hi' vb y) (hi1 : hi ≤ w.heap.size) (hi2 : hi' ≤ w.heap.size) (hle : y ≤ x) (h3 : 3 ≤ (lim x).length) (hx : (lim x).length ≤ 4294967296) :
    Calls Tryd.prog 64 #[va, vb] w fun e w' => LeadR x y e ∧ Below w.heap.size w w' := by
  have Ha := Lib.hid ha
  have Hb := Lib.hid hb
  obtain ⟨A, c, rfl, _, _, hA⟩ := ha
  obtain ⟨B, d, rfl, _, _, hB⟩ := hb
  obtain ⟨n, hn⟩ : ∃ n, n = (lim x).length := ⟨_, rfl⟩
  have hxp : Hid (x < pw n) := by rw [Hid, hn]; exact lim_lt x
  have htop1 : 1 ≤ (lim x).getD (n - 1) 0 := by
    rw [lim_getD]
    have h1 : pw (n - 1) ≤ x := lim_len_lt.1 (by omega)
    have h2 : x < pw (n - 1) * 1000000000 := by
      have := hxp.out
      rw [show n = (n - 1) + 1 from by omega, pw_succ, Nat.mul_comm] at this
      exact this
    have h3 : x / pw (n - 1) < 1000000000 := by rw [Nat.div_lt_iff_lt_mul (pw_pos _), Nat.mul_comm]; exact h2
    rw [Nat.mod_eq_of_lt h3]
    exact Nat.div_pos h1 (pw_pos _)
  have htop9 := lo_getD (lo_lim x) (n - 1)
  obtain ⟨top, ht⟩ : ∃ top, top = (lim x).getD (n - 1) 0 := ⟨_, rfl⟩
  obtain ⟨b, off, rfl, hb1, hb2, _⟩ := hA (cel_ne (j := n - 1) (by omega))
  have hcell : ∀ wr, Below w.heap.size w wr → wr.cell? ⟨b, off + (n - 1), none⟩ = some (.int .u32 (top : Int)) := by
    intro wr hbw
    rw [ht]
    exact (hA.below hbw hi1).at_ _ _ (cel_at (by omega))
  have Hcell := Lib.hid hcell
  have Hn := Lib.hid hn
  have Ht := Lib.hid ht
  rw [← hn] at h3 hx Ha ⊢
  rw [← ht] at htop1 htop9
  clear hcell hn ht hA
  have hbx := cell_one_new w (.int .i64 (n : Int)) 3 0 _ rfl
  have hby := cell_one_new (w.alloc (.cells #[.int .i64 (n : Int)] 3)) (.int .u64 1) 61 0 _ rfl
  rw [Addr.add_lit, Nat.add_zero] at hbx hby
  rw [World.size_alloc] at hby
  have hbx2 := (World.cell?_alloc_lt (w.alloc (.cells #[.int .i64 (n : Int)] 3)) (.cells #[.int .u64 1] 61) ⟨w.heap.size, 0, none⟩ (by rw [World.size_alloc]; show w.heap.size < _; omega)).trans hbx
  have hb0 := (((Below.refl w.heap.size w).alloc (Nat.le_refl _) (.cells #[.int .i64 (n : Int)] 3)).alloc (by rw [World.size_alloc]; omega) (.cells #[.int .u64 1] 61))
  have Hb0 := Lib.hid hb0
  have HC := Lib.hid (And.intro hbx2 hby)
  have hszn : (((w.alloc (.cells #[.int .i64 (n : Int)] 3)).alloc (.cells #[.int .u64 1] 61)).heap.size) = w.heap.size + 2 := by rw [World.size_alloc, World.size_alloc]
  have Hsz := Lib.hid hszn
  have hfz : ∀ wr : World, (∃ t, Row wr (w.heap.size + 1) 61 t) → wr.frozen? ⟨w.heap.size + 1, 0, none⟩ = false := fun wr ⟨t, h⟩ => h.frozen 0
  have hrow : Row ((w.alloc (.cells #[.int .i64 (n : Int)] 3)).alloc (.cells #[.int .u64 1] 61)) (w.heap.size + 1) 61 [.int .u64 1] := by
    have := heap_alloc_new (w.alloc (.cells #[.int .i64 (n : Int)] 3)) (.cells #[.int .u64 1] 61)
    rw [World.size_alloc] at this
    exact this
  have Hrow := Lib.hid hrow
  clear hbx hbx2 hby hb0 hszn hrow hfz
  go_enter Tryd.func64, Tryd.ntmps64
  go_wp2
  go_loopw [] (fun wr => ∃ T : Nat, Row wr (w.heap.size + 1) 61 [.int .u64 (T : Int)] ∧ wr.cell? ⟨w.heap.size, 0, none⟩ = some (.int .i64 (n : Int)) ∧ Below w.heap.size w wr ∧ Hid (wr.heap.size = w.heap.size + 2) ∧ 1 ≤ T ∧ T ≤ 1000000000 ∧ top * T ≤ 999999999 ∧ Hid (∃ t, t ≤ 9 ∧ T = 10 ^ t)) (fun wr => leftT (w.heap.size + 1) wr)
  case atStart => exact ⟨1, Hrow.out, HC.out.1, Hb0.out, Hsz.out, by omega, by omega, by omega, 0, by omega, rfl⟩
  case round =>
    obtain ⟨T, hr, hcn, hbw, hsz, hT0, hT9, htT, hrel⟩ := hrel
    have hct := hr.cell 0
    have hft := hr.frozen 0
    have hctop := Hcell.out wr hbw
    simp only [List.getElem?_cons_zero] at hct
    have hp0 : 0 ≤ (top : Int) * (T : Int) := Int.mul_nonneg (by omega) (by omega)
    have hp1 : (top : Int) * (T : Int) ≤ 999999999 := cast_mul_le htT
    rcases Int.lt_or_le ((top : Int) * T * 10) 1000000000 with hlt | hge
    · have hnx := tens_next htop1 (uncast_lt10 hlt) hrel.out
      have hT10 := hnx.1
      have hnew := Lib.hid hnx.2.1
      have htT2 := Lib.hid hnx.2.2
      clear hnx
      go_wp2
      go_quiet (fail)
      go_wp2
      go_roundw
      case rel =>
        refine ⟨T * 10, ?_, ?_, below_drewN hbw _ |>.setCell (by show w.heap.size ≤ w.heap.size + 1; omega) _, ?_, by omega, by omega, htT2.out, hnew.out⟩
        · have := (hr.drewN nq).set_ 0 (.int .u64 ((T : Int) * 10))
          rw [Int.natCast_mul]
          exact this
        · rw [World.cell?_setCell_other _ _ _ _ (by simp)]
          exact hcn
        · have := hsz.out
          simpa [Hid, World.setCell] using this
      case measure =>
        rw [leftT_eq hct, leftT_eq (k := .u64) (t := (T : Int) * 10) (World.cell?_setCell_same' _ _ _ (by show (wr.cell? _).isSome = true; rw [hct]; rfl))]
        omega
    · obtain ⟨S, hS0, ex, ey, hx18, hlx, hly⟩ := lead_end h3 hxp.out hle (by rw [← Ht.out]; exact htT) hrel.out
      have Hfin : Hid (LeadR x y (.returned (.tuple #[.int .i64 (dig18 x n T : Nat), .int .i64 (dig18 y n T : Nat)]))) := ⟨S, hS0, by rw [ex, ey], hx18⟩
      have Hlx := Lib.hid (cast_top hlx)
      have Hly := Lib.hid (cast_top hly)
      clear ex ey hx18 hlx hly hS0 hrel
      have Hw := Lib.hid (And.intro hcn (And.intro hct hbw))
      have hdec : decide ((top : Int) * (T : Int) * 10 < 1000000000) = false := decide_eq_false (by omega)
      go_wp2_with fail
      go_quiet (fail)
      clear hge
      go_wp2_with fail
      have hbq : Below w.heap.size w (wr.drewN nq) := below_drewN hbw nq
      have hszq : (wr.drewN nq).heap.size = w.heap.size + 2 := hsz.out
      have hnq : (wr.drewN nq).cell? ⟨w.heap.size, 0, none⟩ = some (.int .i64 (n : Int)) := hcn
      have htq : (wr.drewN nq).cell? ⟨w.heap.size + 1, 0, none⟩ = some (.int .u64 (T : Int)) := hct
      clear hcn hct hctop hft hr hbw hsz
      generalize wr.drewN nq = wq at *
      have hA1 := Lib.hid (Ha.out.below hbq hi1)
      have hB1 := Lib.hid (Hb.out.below hbq hi2)
      refine (lead1_n (n : Int) (T : Int) hA1.out (by omega) (by omega) (by omega) (by omega) (by omega) Hlx.out hnq htq (by omega) (by omega)).mono ?_
      rw [Int.toNat_natCast, Int.toNat_natCast]
      rintro e w2 ⟨rfl, hb2⟩
      have hbw2 := hbq.trans (hb2.mono hbq.size)
      have hn2 := (hb2.cell (p := ⟨w.heap.size, 0, none⟩) (by show w.heap.size < _; omega)).trans hnq
      have ht2 := (hb2.cell (p := ⟨w.heap.size + 1, 0, none⟩) (by show w.heap.size + 1 < _; omega)).trans htq
      have hsz2 := hb2.size
      clear hnq htq hA1
      go_wp2_with fail
      refine (lead1_n (n : Int) (T : Int) (hB1.out.below hb2 (by omega)) (by omega) (by omega) (by omega) (by omega) (by omega) Hly.out hn2 ht2 (by omega) (by omega)).mono ?_
      rw [Int.toNat_natCast, Int.toNat_natCast]
      rintro e w3 ⟨rfl, hb3⟩
      go_wp2_with fail
      go_ret2
      exact ⟨Hfin.out, hbw2.trans (hb3.mono hbw2.size)⟩
end Go.Proofs.YtbeocfiimminiaaDoor
