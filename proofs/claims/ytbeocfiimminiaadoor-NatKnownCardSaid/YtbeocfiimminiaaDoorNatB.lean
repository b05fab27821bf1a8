/-
  The contracts of package nat's product.add, product.number, Mul.
-/
import Derived.Test.YtbeocfiimminiaaDoorNatA
namespace Go.Proofs.YtbeocfiimminiaaDoor
open Go.RowKit
set_option linter.unusedVariables false

theorem u64_info : (Tryd.prog.info? 61).map (fun i => (i.zero, i.size, i.bytes)) = some (some (.int .u64 0), 1, 8) := by kernel_rfl
theorem elW : ElT Tryd.prog 66 61 (.int .u64 0) 8 := ⟨Tryd.underlying66, info_parts u64_info, rfl⟩

/-- One step of adding carries. -/
theorem add_ring {V V0 Vn P Q z c t c' r y T : Int} (ht : t = c + y + z) (hr : r = t - c' * 1000000000) (e2 : Vn + P * Q * z = V + P * Q * r) (h : V + c * (P * Q) = V0 + P * T) :
    Vn + c' * (1000000000 * (P * Q)) = V0 + P * (T + Q * y) := by
  subst ht
  subst hr
  grind
theorem add_step {L0 L C : List Nat} {at_ i : Nat} {y z c c' r : Int} (hk : at_ + i < L.length) (hy : y = (C.getD i 0 : Nat)) (hz : z = (L.getD (at_ + i) 0 : Nat)) (hr : r = c + y + z - c' * 1000000000) (hr0 : 0 ≤ r)
    (h : (val L : Int) + c * pw (at_ + i) = val L0 + pw at_ * val (C.take i)) :
    (val (L.set (at_ + i) r.toNat) : Int) + c' * pw (at_ + (i + 1)) = val L0 + pw at_ * val (C.take (i + 1)) := by
  have e := val_set (x := r.toNat) hk
  have e2 : (val (L.set (at_ + i) r.toNat) : Int) + pw (at_ + i) * z = val L + pw (at_ + i) * r := by
    have h3 : ((r.toNat : Nat) : Int) = r := Int.toNat_of_nonneg hr0
    rw [hz]
    have := congrArg (fun n : Nat => (n : Int)) e
    simp only [Int.natCast_add, Int.natCast_mul, h3] at this
    exact this
  rw [val_take_succ' C, ← Nat.add_assoc, pw_succ]
  have e3 : (pw (at_ + i) : Int) = pw at_ * pw i := by rw [pw_add]; simp
  rw [e3] at e2 h
  simp only [Int.natCast_add, Int.natCast_mul, ← hy, e3]
  exact add_ring rfl hr e2 h
theorem add_room {L : List Nat} {k S : Nat} {c : Int} (hc : 1 ≤ c) (h : (val L : Int) + c * pw k = S) (hS : S < pw L.length) : k < L.length := by
  rcases Nat.lt_or_ge k L.length with h1 | h1
  · exact h1
  · have h2 := pw_mono h1
    have h3 := mul_mono hc (show (0 : Int) ≤ pw k by omega)
    omega

set_option maxRecDepth 100000 in
set_option maxHeartbeats 1000000 in
theorem padd (w : World) (gp g at_ : Nat) (A : Option Addr) (c n m : Nat) (L C : List Nat) (lo hi : Nat) (hp : w.cell? ⟨gp, 0, none⟩ = some (.slice (some ⟨g, 0, none⟩) n n)) (hgp : gp ≠ g) (hr : Row w g 61 (cel .u64 L)) (hL : Lo L) (hLl : L.length = n) (hn : n ≤ 8589934592)
    (hC : SV w lo hi A (cel .u64 C)) (hg : g < lo ∨ hi ≤ g) (hCl : C.length = m) (hCb : ∀ j, C.getD j 0 ≤ 999999998000000001) (hat : at_ + C.length ≤ n) (hfit : val L + pw at_ * val C < pw n) :
    Calls Tryd.prog 50 #[.pointer (some ⟨gp, 0, none⟩), .int .i64 (at_ : Int), .slice A m c] w fun e w' => (∃ L', e = .returned (.tuple #[]) ∧ Row w' g 61 (cel .u64 L') ∧ L'.length = n ∧ Lo L' ∧ val L' = val L + pw at_ * val C) ∧ Only g w w' := by
  have HL := Lib.hid hL; clear hL
  have HLl := Lib.hid hLl; clear hLl
  have Hf := Lib.hid hfit; clear hfit
  have HCb := Lib.hid hCb; clear hCb
  subst hCl
  have Hp := Lib.hid hp
  clear hp
  go_enter Tryd.func50, Tryd.ntmps50
  go_wp2
  go_loopw [6, 7] (fun cr i wr => ∃ (k : Nat) (M : List Nat) (cy : Int), at_ + k ≤ n ∧ i = .int .i64 (k : Int) ∧ cr = .int .u64 cy ∧ 0 ≤ cy ∧ cy ≤ 1000000000 ∧ Row wr g 61 (cel .u64 M) ∧ Only g w wr ∧
      Hid (M.length = n ∧ Lo M ∧ (val M : Int) + cy * pw (at_ + k) = val L + pw at_ * val (C.take k))) (fun _ i _ => n - (intOf i).toNat)
  case atStart => exact ⟨0, L, 0, by omega, rfl, rfl, by omega, by omega, hr, Only.refl _ _, HLl.out, HL.out, by simp [val]⟩
  case round =>
    obtain ⟨k, M, cy, hk, rfl, rfl, hc0, hc1, hr', hO, hrel⟩ := hrel
    have hp' : wr.cell? ⟨gp, 0, none⟩ = some (.slice (some ⟨g, 0, none⟩) n n) := (World.cell?_of_block (hO.block gp hgp)).trans Hp.out
    have hMl : M.length = n := hrel.out.1
    rcases Nat.lt_or_ge k C.length with hlt | hge
    · obtain ⟨b, off, rfl, _, _, hca⟩ := (hC.only hO hg) (cel_ne (j := k) hlt)
      obtain ⟨y, hy, hy0, hyc⟩ := cell_at (j := k) hca hlt
      have hy1 : y ≤ 999999998000000001 := by have := HCb.out k; have := hy.out; omega
      clear hca
      obtain ⟨z, hz, hz0, hz1, hzc⟩ := hr'.lo hrel.out.2.1 (i := at_ + k) (by omega)
      have hzf := hr'.frozen (at_ + k)
      have HMl := Lib.hid hMl
      clear hMl
      go_wp2
      go_roundw
      case rel =>
        exact ⟨k + 1, M.set (at_ + k) ((cy + y + z) % 1000000000).toNat, (cy + y + z) / 1000000000, by omega, by go_num, rfl, by omega, by omega, hr'.setNum _ _ _ (by omega), hO.setCell _ _,
          by rw [List.length_set]; exact HMl.out, lo_set hrel.out.2.1 (by omega), add_step (y := y) (z := z) (by have := HMl.out; omega) hy.out hz.out (by omega) (by omega) hrel.out.2.2⟩
      case measure => simp [intOf]; omega
    · have HMl := Lib.hid hMl
      clear hMl
      have hv := hrel.out.2.2
      rw [val_take_all hge] at hv
      have Hv := Lib.hid hv
      clear hv
      rcases Int.lt_or_le 0 cy with hcy | hcy
      · have hroom : at_ + k < n := by
          have := add_room (S := val L + pw at_ * val C) hcy (by have := Hv.out; simpa using this) (by rw [HMl.out]; exact Hf.out)
          rw [HMl.out] at this
          exact this
        obtain ⟨z, hz, hz0, hz1, hzc⟩ := hr'.lo hrel.out.2.1 (i := at_ + k) (by have := HMl.out; omega)
        have hzf := hr'.frozen (at_ + k)
        go_wp2
        go_roundw
        case rel =>
          exact ⟨k + 1, M.set (at_ + k) ((cy + z) % 1000000000).toNat, (cy + z) / 1000000000, by omega, by go_num, rfl, by omega, by omega, hr'.setNum _ _ _ (by omega), hO.setCell _ _,
            by rw [List.length_set]; exact HMl.out, lo_set hrel.out.2.1 (by omega), add_step (y := 0) (z := z) (by have := HMl.out; omega) (by rw [getD_end hge]; rfl) hz.out (by omega) (by omega) hrel.out.2.2⟩
        case measure => simp [intOf]; omega
      · have hcz : cy = 0 := by omega
        subst hcz
        go_wp2
        go_end0
        refine ⟨⟨M, rfl, hr', HMl.out, hrel.out.2.1, ?_⟩, hO⟩
        have := Hv.out
        rw [Int.zero_mul, Int.add_zero] at this
        apply Int.ofNat_inj.1
        simpa using this

set_option maxRecDepth 100000 in
set_option maxHeartbeats 1000000 in
theorem pnumber (w : World) (gp g n : Nat) (L : List Nat) (hgp : gp < w.heap.size) (hp : w.cell? ⟨gp, 0, none⟩ = some (.slice (some ⟨g, 0, none⟩) n n)) (hr : Row w g 61 (cel .u64 L)) (hL : Lo L) (hLl : L.length = n) (hn : n ≤ 8589934592) :
    Calls Tryd.prog 51 #[.pointer (some ⟨gp, 0, none⟩)] w fun e w' => (∃ v, e = .returned v ∧ IsN w' w.heap.size w'.heap.size v (val L)) ∧ Below w.heap.size w w' := by
  have HL := Lib.hid hL; clear hL
  have HLl := Lib.hid hLl; clear hLl
  go_enter Tryd.func51, Tryd.ntmps51
  go_wp2
  go_loop [3] (fun i => ∃ k : Nat, k ≤ n ∧ i = .int .i64 (k : Int) ∧ Hid (∀ j, k ≤ j → j < L.length → L.getD j 0 = 0)) (fun i => (intOf i).toNat)
  case atStart => exact ⟨n, Nat.le_refl _, rfl, fun j h1 h2 => by have := HLl.out; omega⟩
  case round =>
    obtain ⟨k, hk, rfl, hz⟩ := hrel
    have hcont : (∃ k', k = k' + 1 ∧ L.getD k' 0 = 0) ∨ (k = 0 ∨ ∃ k', k = k' + 1 ∧ L.getD k' 0 ≠ 0) := by
      rcases k with _ | k
      · exact .inr (.inl rfl)
      · by_cases h : L.getD k 0 = 0
        · exact .inl ⟨k, rfl, h⟩
        · exact .inr (.inr ⟨k, rfl, h⟩)
    rcases hcont with ⟨k', rfl, h0⟩ | hstop
    · obtain ⟨x, hx, hx0, hxc⟩ := hr.num (i := k') (by have := HLl.out; omega)
      have hxz : x = 0 := by rw [hx.out, h0]; rfl
      subst hxz
      go_wp2
      go_round
      case rel => exact ⟨k', by omega, int_eq (by omega), fun j h1 h2 => by
        rcases Nat.eq_or_lt_of_le h1 with h3 | h3
        · subst h3; exact h0
        · exact hz.out j h3 h2⟩
      case measure => simp [intOf]
    · have hkl : k ≤ L.length := by have := HLl.out; omega
      have Ht : Hid (lim (val L) = L.take k) := trim_to HL.out hkl hz.out (by
        rcases hstop with rfl | ⟨k', rfl, h⟩
        · exact .inl rfl
        · exact .inr (by simpa using h))
      clear hz hkl
      rcases hstop with rfl | ⟨k', rfl, hne⟩
      · go_wp2_with (at_make; refine wp_make0 elN rfl _ _ rfl 0 rfl rfl (by omega) (by omega) (Nat.le_refl _) ?_; intro v1 w1 hown hb1 hz1; have hp1 := (hb1.cell hgp).trans hp)
        go_loopw [4, 36] (fun v i wr => v = v1 ∧ i = .int .i64 0 ∧ wr = w1) (fun _ i _ => 0)
        case atStart => exact ⟨rfl, rfl, rfl⟩
        case round =>
          obtain ⟨rfl, rfl, rfl⟩ := hrel
          go_wp2
          go_ret
          refine ⟨⟨_, rfl, ?_⟩, hb1⟩
          unfold IsN
          rw [Ht.out, List.take_zero]
          exact Own.isL hown
      · obtain ⟨x, hx, hx0, hxc⟩ := hr.num (i := k') (by have := HLl.out; omega)
        have hxz : (x == 0) = false := beq_eq_false_iff_ne.2 (by have := hx.out; omega)
        go_wp2_with (at_make; refine wp_make0 elN rfl _ _ rfl (k' + 1) rfl rfl (by omega) (by omega) (Nat.le_refl _) ?_; intro v1 w1 hown hb1 hz1; have hp1 := (hb1.cell hgp).trans hp)
        clear hxc
        go_loopw [4, 36] (fun v i wr => ∃ j : Nat, j ≤ k' + 1 ∧ i = .int .i64 (j : Int) ∧ Own wr w.heap.size 34 v (cel .u32 (L.take j)) ∧ Below w.heap.size w wr) (fun _ i _ => k' + 1 - (intOf i).toNat)
        case atStart => exact ⟨0, Nat.zero_le _, rfl, by simpa [cel] using hown, hb1⟩
        case round =>
          clear hp1 hown hb1 hz1
          obtain ⟨j, hj, rfl, hown, hb⟩ := hrel
          have hrj := hr.below hb hr.lt
          have hBw := hb.size
          rcases Nat.lt_or_ge j (k' + 1) with hlt | hge
          · obtain ⟨y, hy, hy0, hy1, hyc⟩ := hrj.lo HL.out (i := j) (by have := HLl.out; omega)
            have hlen : Hid ((cel .u32 (L.take j)).length = j) := by rw [Hid, cel_length, List.length_take]; have := HLl.out; omega
            go_wp2_with (at_builtin; refine wp_app1 elN rfl _ _ rfl rfl hown rfl rfl (by rw [hlen.out]; omega) hBw ?_; intro v2 w2 hown2 hb2 hz2)
            go_roundw
            case rel =>
              rw [cel_snoc .u32 (L.take j) (L.getD j 0) _ hy.out] at hown2
              refine ⟨j + 1, hlt, by go_num, ?_, hb.trans hb2⟩
              rw [List.take_succ_eq_append_getElem (by have := HLl.out; omega)]
              rw [List.getD_eq_getElem?_getD, List.getElem?_eq_getElem (by have := HLl.out; omega)] at hown2
              exact hown2
            case measure => simp [intOf]; omega
          · obtain rfl : j = k' + 1 := by omega
            go_wp2
            go_ret
            refine ⟨⟨_, rfl, ?_⟩, hb⟩
            unfold IsN
            rw [Ht.out]
            exact Own.isL hown
end Go.Proofs.YtbeocfiimminiaaDoor
