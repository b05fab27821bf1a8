/-
  The contract of the reference's of.
-/
import Derived.Test.YtblpaocignlpkaaGreatDoorProofDualCalls04
import Derived.Test.YtblpaocignlpkaaGreatDoorBase12
import Derived.Test.YtblpaocignlpkaaGreatDoorBase06
import Derived.Test.YtblpaocignlpkaaGreatDoorBase14
import Derived.Test.YtblpaocignlpkaaGreatDoorBase13
namespace Go.Proofs.YtblpaocignlpkaaGreatDoor
open Go.RowKit
set_option linter.unusedVariables false

theorem dualA_get {q : ProgQ} {j : Nat} (h : j < q.C.length) : (dualQ q).A[j]? = some (negV (colQ q.A j)) := by
  unfold dualQ
  simp only
  rw [List.getElem?_map, List.getElem?_range h]
  rfl
theorem rawM_snoc (m : List (List Rat)) (x : List Rat) : rawM (m ++ [x]) = rawM m ++ [rawV x] := by simp [rawM]
theorem colQ_take {A : List (List Rat)} {row : List Rat} {x : Rat} {j m : Nat} (h : A[m]? = some row) (hx : row[j]? = some x) : (negV (colQ A j)).take (m + 1) = (negV (colQ A j)).take m ++ [-x] := by
  refine take_snoc (negV_get ?_)
  unfold colQ
  rw [List.getElem?_map, h]
  simp [hx]

set_option maxRecDepth 100000 in
set_option maxHeartbeats 4000000 in
theorem rof_l {w : World} {vp : Value} {q : ProgQ} (hp : IsP w (Old w) vp (rawP q)) (hg : Good q 1024) :
    Calls Tryz.prog 68 #[vp] w fun e w' => (∃ v, e = .returned v ∧ IsP w' (Old w') v (rawP (dualQ q))) ∧ Below w.heap.size w w' := by
  have HG := Lib.hid hg
  obtain ⟨A, cA, B, cB, C, cC, rfl, hA, hBv, hC⟩ := hp
  simp only [rawP, rawV_len, rawM_len] at hA hBv hC ⊢
  obtain ⟨M, hM⟩ : ∃ m, m = q.B.length := ⟨_, rfl⟩
  obtain ⟨n, hn⟩ : ∃ m, m = q.C.length := ⟨_, rfl⟩
  have hM40 : M ≤ 40 := by rw [hM]; exact hg.nB
  have hn40 : n ≤ 40 := by rw [hn]; exact hg.nC
  have HMl := Lib.hid hM
  have Hnl := Lib.hid hn
  rw [hg.rows, ← hM] at hA ⊢
  rw [← hM] at hBv
  rw [← hn] at hC ⊢
  have HA := Lib.hid hA
  have HB := Lib.hid hBv
  have HC := Lib.hid hC
  have Hrow : Hid (∀ row ∈ q.A, row.length = n) := fun row h => (hg.cols row h).trans hn.symm
  clear hg hA hBv hC hM hn
  obtain ⟨w0, hw0, hb0, rP, rZ, Hz⟩ := boxes2 w #[.slice A M cA, .slice B M cB, .slice C n cC] #[.slice none 0 0, .slice none 0 0, .slice none 0 0] 27 27
  have HB0 := Lib.hid hb0
  have CP := Lib.hid (cells3 rP)
  have RZ := Lib.hid rZ
  obtain ⟨cP0, cP1, cP2⟩ := cells3 rP
  clear rP rZ hb0
  go_enter Tryz.func68, Tryz.ntmps68
  go_wp2_with fail
  clear hw0
  have HS : Hid (∀ W : World, Below w0.heap.size w0 W → W.cell? ⟨w.heap.size, 1, none⟩ = some (.slice B M cB) ∧ W.cell? ⟨w.heap.size, 2, none⟩ = some (.slice C n cC)) := fun W hW => ⟨keep_cell hW CP.out.2.1, keep_cell hW CP.out.2.2⟩
  have D3 : Hid (∀ W : World, Below w0.heap.size w0 W → Calls Tryz.prog 121 #[.slice C n cC] W (fun e w' => (∃ v', e = .returned v' ∧ IsV w' (Grow (Old w) W w') v' (rawV (negV q.C))) ∧ Below W.heap.size W w')) := fun W hW => rminus_s (S0 := Old w) (IsV.stb.to HC.out (same_below (S := Old w) (below_step HB0.out hW) (fun b h => h))) (fun b h => Nat.lt_of_lt_of_le h (below_step HB0.out hW).size) (by rw [← Hnl.out]; omega)
  have D4 : Hid (∀ W : World, Below w0.heap.size w0 W → Calls Tryz.prog 121 #[.slice B M cB] W (fun e w' => (∃ v', e = .returned v' ∧ IsV w' (Grow (Old w) W w') v' (rawV (negV q.B))) ∧ Below W.heap.size W w')) := fun W hW => rminus_s (S0 := Old w) (IsV.stb.to HB.out (same_below (S := Old w) (below_step HB0.out hW) (fun b h => h))) (fun b h => Nat.lt_of_lt_of_le h (below_step HB0.out hW).size) (by rw [← HMl.out]; omega)
  go_region_held3 (fun w' => w'.cell? ⟨w.heap.size, 1, none⟩ = some (.slice B M cB) ∧ w'.cell? ⟨w.heap.size, 2, none⟩ = some (.slice C n cC))
    (exact HS.out _ (by (repeat (first | exact Below.refl _ _ | assumption | refine below_allocR ?_ _ | refine below_drewR ?_ | refine below_put3X ?_ ?_ _ _ _ | refine below_setG ?_ (by omega) | refine below_step ?_ (by assumption))); (first | done | fail)))
    (first
      | (go_at_call 121; (with_reducible refine Calls.mono (D3.out _ (by (repeat (first | exact Below.refl _ _ | assumption | refine below_allocR ?_ _ | refine below_drewR ?_ | refine below_put3X ?_ ?_ _ _ _ | refine below_setG ?_ (by omega) | refine below_step ?_ (by assumption))); (first | done | fail))) ?_); rintro e w3 ⟨⟨v3, rfl, hv3⟩, hb3⟩; have V3 := Lib.hid hv3; obtain ⟨P3, k3, rfl, _⟩ := isV_len hv3)
      | (go_at_call 121; (with_reducible refine Calls.mono (D4.out _ (by (repeat (first | exact Below.refl _ _ | assumption | refine below_allocR ?_ _ | refine below_drewR ?_ | refine below_put3X ?_ ?_ _ _ _ | refine below_setG ?_ (by omega) | refine below_step ?_ (by assumption))); (first | done | fail))) ?_); rintro e w4 ⟨⟨v4, rfl, hv4⟩, hb4⟩; have V4 := Lib.hid hv4; obtain ⟨P4, k4, rfl, _⟩ := isV_len hv4; (first | (have rB : Row w4 w3.heap.size 27 [.slice none 0 0, .slice none 0 0, .slice none 0 0] := (Row.next (heap_alloc_new w3 zProg) (by (repeat (first | exact Below.refl _ _ | assumption | refine below_allocR ?_ _ | refine below_drewR ?_ | refine below_put3X ?_ ?_ _ _ _ | refine below_setG ?_ (by omega) | refine below_step ?_ (by assumption))); (first | done | fail)) : Row w4 _ _ _); obtain ⟨gc0, gc1, gc2⟩ := cells3 rB; obtain ⟨gf0, gf1, gf2⟩ := free3 rB) | (have rB : Row w4 w0.heap.size 27 [.slice none 0 0, .slice none 0 0, .slice none 0 0] := (Row.next (heap_alloc_new w0 zProg) (by (repeat (first | exact Below.refl _ _ | assumption | refine below_allocR ?_ _ | refine below_drewR ?_ | refine below_put3X ?_ ?_ _ _ _ | refine below_setG ?_ (by omega) | refine below_step ?_ (by assumption))); (first | done | fail)) : Row w4 _ _ _); obtain ⟨gc0, gc1, gc2⟩ := cells3 rB; obtain ⟨gf0, gf1, gf2⟩ := free3 rB) | (have rB : Row w4 w0.heap.size 27 [.slice none 0 0, .slice none 0 0, .slice none 0 0] := (Row.next (heap_alloc_new (World.drew w0) zProg) (by (repeat (first | exact Below.refl _ _ | assumption | refine below_allocR ?_ _ | refine below_drewR ?_ | refine below_put3X ?_ ?_ _ _ _ | refine below_setG ?_ (by omega) | refine below_step ?_ (by assumption))); (first | done | fail)) : Row w4 _ _ _); obtain ⟨gc0, gc1, gc2⟩ := cells3 rB; obtain ⟨gf0, gf1, gf2⟩ := free3 rB) | skip)))
  all_goals first
    | (have hF := finP (a := .slice none 0 0) (b := .slice P3 (rawV (negV q.C)).length k3) (c := .slice P4 (rawV (negV q.B)).length k4) (wB := w0) (w5 := w4) (X := w3) (g := w3.heap.size) (by (repeat (first | exact Below.refl _ _ | assumption | refine below_allocR ?_ _ | refine below_drewR ?_ | refine below_put3X ?_ ?_ _ _ _ | refine below_setG ?_ (by omega) | refine below_step ?_ (by assumption))); (first | done | fail)) (by (repeat (first | exact Below.refl _ _ | assumption | refine below_allocR ?_ _ | refine below_drewR ?_ | refine below_put3X ?_ ?_ _ _ _ | refine below_setG ?_ (by omega) | refine below_step ?_ (by assumption))); (first | done | fail)) (by (repeat (first | exact Below.refl _ _ | assumption | refine below_allocR ?_ _ | refine below_drewR ?_ | refine below_put3X ?_ ?_ _ _ _ | refine below_setG ?_ (by omega) | refine below_step ?_ (by assumption))); (first | done | fail)) rfl; obtain ⟨wE, hwE, hbE, rE, sE, zE⟩ := hF; have hdr : ∀ W : World, (World.drew W).heap.size = W.heap.size := fun _ => rfl; have z0 := Hz.out; have s3 := hb3.size; have s4 := hb4.size; (try simp only [hdr] at s3 s4); (try simp only [World.size_alloc] at s3 s4); have zz := zE.out; have V3' : IsV w3 (SP w w0 w3.heap.size w3) _ _ := IsV.stb.to V3.out (same_imp fun b h => by rcases h with h | ⟨h1, h2⟩; (have h : b < w.heap.size := h; exact ⟨.inl h, by omega, by omega⟩); (try simp only [hdr] at h1); (try simp only [World.size_alloc] at h1); exact ⟨.inr (by omega), h2, by omega⟩); have V4' : IsV w4 (SP w w0 w3.heap.size w4) _ _ := IsV.stb.to V4.out (same_imp fun b h => by rcases h with h | ⟨h1, h2⟩; (have h : b < w.heap.size := h; exact ⟨.inl h, by omega, by omega⟩); (try simp only [hdr] at h1); (try simp only [World.size_alloc] at h1); exact ⟨.inr (by omega), h2, by omega⟩); have VB := Lib.hid (IsV.stb.to (IsV.stb.to (IsV.stb.to V3' (same_below (S := SP w w0 w3.heap.size w3) (show Below w3.heap.size w3 w4 from (by (repeat (first | exact Below.refl _ _ | assumption | refine below_allocR ?_ _ | refine below_drewR ?_ | refine below_put3X ?_ ?_ _ _ _ | refine below_setG ?_ (by omega) | refine below_step ?_ (by assumption))); (first | done | fail))) fun b h => h.2.1)) (sE.out _ fun b h => ⟨Nat.lt_of_lt_of_le h.2.1 (by omega), h.2.2⟩)) (same_imp (T := SP w w0 w3.heap.size wE) fun b h => ⟨h.1, Nat.lt_of_lt_of_le h.2.1 (by omega), h.2.2⟩)); have VC := Lib.hid (IsV.stb.to (IsV.stb.to V4' (sE.out _ fun b h => h.2)) (same_imp (T := SP w w0 w3.heap.size wE) fun b h => ⟨h.1, Nat.lt_of_lt_of_le h.2.1 zz.2, h.2.2⟩)); clear V3' V4' s3 s4 hdr z0 zz; (first | rw [hwE] | (change Exit.then _ _ _ _ (put3 _ _ _ _ _); rw [hwE])); go_wp2_with fail; obtain ⟨g, hgg⟩ : ∃ g, g = w3.heap.size := ⟨_, rfl⟩; have zg : w0.heap.size ≤ g := (by have h := zE.out.1; omega); rw [← hgg] at rE VB VC ⊢; clear hgg zE sE)
    | (have hF := finP (a := .slice none 0 0) (b := .slice P3 (rawV (negV q.C)).length k3) (c := .slice P4 (rawV (negV q.B)).length k4) (wB := w0) (w5 := w4) (X := w0) (g := w0.heap.size) (by (repeat (first | exact Below.refl _ _ | assumption | refine below_allocR ?_ _ | refine below_drewR ?_ | refine below_put3X ?_ ?_ _ _ _ | refine below_setG ?_ (by omega) | refine below_step ?_ (by assumption))); (first | done | fail)) (by (repeat (first | exact Below.refl _ _ | assumption | refine below_allocR ?_ _ | refine below_drewR ?_ | refine below_put3X ?_ ?_ _ _ _ | refine below_setG ?_ (by omega) | refine below_step ?_ (by assumption))); (first | done | fail)) (by (repeat (first | exact Below.refl _ _ | assumption | refine below_allocR ?_ _ | refine below_drewR ?_ | refine below_put3X ?_ ?_ _ _ _ | refine below_setG ?_ (by omega) | refine below_step ?_ (by assumption))); (first | done | fail)) rfl; obtain ⟨wE, hwE, hbE, rE, sE, zE⟩ := hF; have hdr : ∀ W : World, (World.drew W).heap.size = W.heap.size := fun _ => rfl; have z0 := Hz.out; have s3 := hb3.size; have s4 := hb4.size; (try simp only [hdr] at s3 s4); (try simp only [World.size_alloc] at s3 s4); have zz := zE.out; have V3' : IsV w3 (SP w w0 w0.heap.size w3) _ _ := IsV.stb.to V3.out (same_imp fun b h => by rcases h with h | ⟨h1, h2⟩; (have h : b < w.heap.size := h; exact ⟨.inl h, by omega, by omega⟩); (try simp only [hdr] at h1); (try simp only [World.size_alloc] at h1); exact ⟨.inr (by omega), h2, by omega⟩); have V4' : IsV w4 (SP w w0 w0.heap.size w4) _ _ := IsV.stb.to V4.out (same_imp fun b h => by rcases h with h | ⟨h1, h2⟩; (have h : b < w.heap.size := h; exact ⟨.inl h, by omega, by omega⟩); (try simp only [hdr] at h1); (try simp only [World.size_alloc] at h1); exact ⟨.inr (by omega), h2, by omega⟩); have VB := Lib.hid (IsV.stb.to (IsV.stb.to (IsV.stb.to V3' (same_below (S := SP w w0 w0.heap.size w3) (show Below w3.heap.size w3 w4 from (by (repeat (first | exact Below.refl _ _ | assumption | refine below_allocR ?_ _ | refine below_drewR ?_ | refine below_put3X ?_ ?_ _ _ _ | refine below_setG ?_ (by omega) | refine below_step ?_ (by assumption))); (first | done | fail))) fun b h => h.2.1)) (sE.out _ fun b h => ⟨Nat.lt_of_lt_of_le h.2.1 (by omega), h.2.2⟩)) (same_imp (T := SP w w0 w0.heap.size wE) fun b h => ⟨h.1, Nat.lt_of_lt_of_le h.2.1 (by omega), h.2.2⟩)); have VC := Lib.hid (IsV.stb.to (IsV.stb.to V4' (sE.out _ fun b h => h.2)) (same_imp (T := SP w w0 w0.heap.size wE) fun b h => ⟨h.1, Nat.lt_of_lt_of_le h.2.1 zz.2, h.2.2⟩)); clear V3' V4' s3 s4 hdr z0 zz; (first | rw [hwE] | (change Exit.then _ _ _ _ (put3 _ _ _ _ _); rw [hwE])); go_wp2_with fail; obtain ⟨g, hgg⟩ : ∃ g, g = w0.heap.size := ⟨_, rfl⟩; have zg : w0.heap.size ≤ g := (by have h := zE.out.1; omega); rw [← hgg] at rE VB VC ⊢; clear hgg zE sE)
    | (have hF := finP (a := .slice none 0 0) (b := .slice P3 (rawV (negV q.C)).length k3) (c := .slice P4 (rawV (negV q.B)).length k4) (wB := w0) (w5 := w4) (X := World.drew w0) (g := w0.heap.size) (by (repeat (first | exact Below.refl _ _ | assumption | refine below_allocR ?_ _ | refine below_drewR ?_ | refine below_put3X ?_ ?_ _ _ _ | refine below_setG ?_ (by omega) | refine below_step ?_ (by assumption))); (first | done | fail)) (by (repeat (first | exact Below.refl _ _ | assumption | refine below_allocR ?_ _ | refine below_drewR ?_ | refine below_put3X ?_ ?_ _ _ _ | refine below_setG ?_ (by omega) | refine below_step ?_ (by assumption))); (first | done | fail)) (by (repeat (first | exact Below.refl _ _ | assumption | refine below_allocR ?_ _ | refine below_drewR ?_ | refine below_put3X ?_ ?_ _ _ _ | refine below_setG ?_ (by omega) | refine below_step ?_ (by assumption))); (first | done | fail)) rfl; obtain ⟨wE, hwE, hbE, rE, sE, zE⟩ := hF; have hdr : ∀ W : World, (World.drew W).heap.size = W.heap.size := fun _ => rfl; have z0 := Hz.out; have s3 := hb3.size; have s4 := hb4.size; (try simp only [hdr] at s3 s4); (try simp only [World.size_alloc] at s3 s4); have zz := zE.out; have V3' : IsV w3 (SP w w0 w0.heap.size w3) _ _ := IsV.stb.to V3.out (same_imp fun b h => by rcases h with h | ⟨h1, h2⟩; (have h : b < w.heap.size := h; exact ⟨.inl h, by omega, by omega⟩); (try simp only [hdr] at h1); (try simp only [World.size_alloc] at h1); exact ⟨.inr (by omega), h2, by omega⟩); have V4' : IsV w4 (SP w w0 w0.heap.size w4) _ _ := IsV.stb.to V4.out (same_imp fun b h => by rcases h with h | ⟨h1, h2⟩; (have h : b < w.heap.size := h; exact ⟨.inl h, by omega, by omega⟩); (try simp only [hdr] at h1); (try simp only [World.size_alloc] at h1); exact ⟨.inr (by omega), h2, by omega⟩); have VB := Lib.hid (IsV.stb.to (IsV.stb.to (IsV.stb.to V3' (same_below (S := SP w w0 w0.heap.size w3) (show Below w3.heap.size w3 w4 from (by (repeat (first | exact Below.refl _ _ | assumption | refine below_allocR ?_ _ | refine below_drewR ?_ | refine below_put3X ?_ ?_ _ _ _ | refine below_setG ?_ (by omega) | refine below_step ?_ (by assumption))); (first | done | fail))) fun b h => h.2.1)) (sE.out _ fun b h => ⟨Nat.lt_of_lt_of_le h.2.1 (by omega), h.2.2⟩)) (same_imp (T := SP w w0 w0.heap.size wE) fun b h => ⟨h.1, Nat.lt_of_lt_of_le h.2.1 (by omega), h.2.2⟩)); have VC := Lib.hid (IsV.stb.to (IsV.stb.to V4' (sE.out _ fun b h => h.2)) (same_imp (T := SP w w0 w0.heap.size wE) fun b h => ⟨h.1, Nat.lt_of_lt_of_le h.2.1 zz.2, h.2.2⟩)); clear V3' V4' s3 s4 hdr z0 zz; (first | rw [hwE] | (change Exit.then _ _ _ _ (put3 _ _ _ _ _); rw [hwE])); go_wp2_with fail; obtain ⟨g, hgg⟩ : ∃ g, g = w0.heap.size := ⟨_, rfl⟩; have zg : w0.heap.size ≤ g := (by have h := zE.out.1; omega); rw [← hgg] at rE VB VC ⊢; clear hgg zE sE)
    | (have hF := finPL (a := .slice none 0 0) (b := .slice P3 (rawV (negV q.C)).length k3) (c := .slice P4 (rawV (negV q.B)).length k4) (wB := w0) (w5 := w4) (by (repeat (first | exact Below.refl _ _ | assumption | refine below_allocR ?_ _ | refine below_drewR ?_ | refine below_put3X ?_ ?_ _ _ _ | refine below_setG ?_ (by omega) | refine below_step ?_ (by assumption))); (first | done | fail)); obtain ⟨wE, hwE, hbE, rE, sE, zE⟩ := hF; have hdr : ∀ W : World, (World.drew W).heap.size = W.heap.size := fun _ => rfl; have z0 := Hz.out; have s3 := hb3.size; have s4 := hb4.size; (try simp only [hdr] at s3 s4); (try simp only [World.size_alloc] at s3 s4); have zz := zE.out; have V3' : IsV w3 (SP w w0 w4.heap.size w3) _ _ := IsV.stb.to V3.out (same_imp fun b h => by rcases h with h | ⟨h1, h2⟩; (have h : b < w.heap.size := h; exact ⟨.inl h, by omega, by omega⟩); (try simp only [hdr] at h1); (try simp only [World.size_alloc] at h1); exact ⟨.inr (by omega), h2, by omega⟩); have V4' : IsV w4 (SP w w0 w4.heap.size w4) _ _ := IsV.stb.to V4.out (same_imp fun b h => by rcases h with h | ⟨h1, h2⟩; (have h : b < w.heap.size := h; exact ⟨.inl h, by omega, by omega⟩); (try simp only [hdr] at h1); (try simp only [World.size_alloc] at h1); exact ⟨.inr (by omega), h2, by omega⟩); have VB := Lib.hid (IsV.stb.to (IsV.stb.to (IsV.stb.to V3' (same_below (S := SP w w0 w4.heap.size w3) (show Below w3.heap.size w3 w4 from (by (repeat (first | exact Below.refl _ _ | assumption | refine below_allocR ?_ _ | refine below_drewR ?_ | refine below_put3X ?_ ?_ _ _ _ | refine below_setG ?_ (by omega) | refine below_step ?_ (by assumption))); (first | done | fail))) fun b h => h.2.1)) (sE.out _ fun b h => ⟨Nat.lt_of_lt_of_le h.2.1 (by omega), h.2.2⟩)) (same_imp (T := SP w w0 w4.heap.size wE) fun b h => ⟨h.1, Nat.lt_of_lt_of_le h.2.1 (by omega), h.2.2⟩)); have VC := Lib.hid (IsV.stb.to (IsV.stb.to V4' (sE.out _ fun b h => h.2)) (same_imp (T := SP w w0 w4.heap.size wE) fun b h => ⟨h.1, Nat.lt_of_lt_of_le h.2.1 zz.2, h.2.2⟩)); clear V3' V4' s3 s4 hdr z0 zz; (first | rw [hwE] | (change Exit.then _ _ _ _ (put3 _ _ _ _ _); rw [hwE])); go_wp2_with fail; obtain ⟨g, hgg⟩ : ∃ g, g = w4.heap.size := ⟨_, rfl⟩; have zg : w0.heap.size ≤ g := (by have h := zE.out.1; omega); rw [← hgg] at rE VB VC ⊢; clear hgg zE sE)
  all_goals clear HS D3 D4 V3 V4 hv3 hv4
  all_goals
    have RE := Lib.hid rE
    have HbE := Lib.hid hbE
    have gE : g < wE.heap.size := rE.lt
    clear rE hbE hwE cP0 cP1 cP2
    go_loopw [4, 5, 6] (fun k row i wr => ∃ (j : Nat) (S : Nat → Prop) (va : Value), j ≤ n ∧ k = .int .i64 (j : Int) ∧ Below w0.heap.size w0 wr ∧ wE.grownBy wr (some g) ∧ Row wr g 27 [va, .slice P3 (rawV (negV q.C)).length k3, .slice P4 (rawV (negV q.B)).length k4] ∧ OwnS 1 25 IsV wr wE.heap.size S va (rawM ((dualQ q).A.take j)) ∧ Hid ((∀ b, b < w.heap.size → S b) ∧ ∀ b, S b → (b < w.heap.size ∨ w0.heap.size ≤ b) ∧ b ≠ g)) (fun k _ _ _ => n - (intOf k).toNat)
    case atStart => exact ⟨0, Old w, _, Nat.zero_le _, rfl, HbE.out, grown_below (Below.refl _ _), RE.out, by simpa [rawM] using (OwnS.nil (fun b h => by have : b < w.heap.size := h; have := Hz.out; omega) : OwnS 1 25 IsV wE wE.heap.size (Old w) _ _), fun b h => h, fun b h => by have : b < w.heap.size := h; have := Hz.out; exact ⟨.inl h, by omega⟩⟩
    case round =>
      obtain ⟨wo, rfl⟩ : ∃ x, x = wr := ⟨_, rfl⟩
      obtain ⟨j, S, va, hj, rfl, hbw, hgr, hrow, hown, hS⟩ := hrel
      have Hbw := Lib.hid hbw
      have Hgr := Lib.hid hgr
      have HRw := Lib.hid hrow
      have HS := Lib.hid hS.out
      have Hown := Lib.hid hown
      have hzz := Hz.out
      have hszE := hgr.size
      have hszw := hbw.size
      have cP0 := keep_cell hbw CP.out.1
      have cP2 := keep_cell hbw CP.out.2.2
      clear hS hgr hrow hown
      rcases Nat.lt_or_ge j n with hlt | hge
      · clear hzz
        go_wp2_with fail
        go_loopw [5, 6] (fun row i wr => ∃ (m : Nat) (S2 : Nat → Prop), m ≤ M ∧ i = .int .i64 (m : Int) ∧ Below wo.heap.size wo wr ∧ OwnS 3 31 IsR wr wo.heap.size S2 row (rawV ((negV (colQ q.A j)).take m)) ∧ Hid ((∀ b, b < w.heap.size → S2 b) ∧ ∀ b, S2 b → b < w.heap.size ∨ wo.heap.size ≤ b)) (fun _ i _ => M - (intOf i).toNat)
        case atStart => exact ⟨0, Old w, Nat.zero_le _, rfl, Below.refl _ _, by simpa [rawV] using (OwnS.nil (fun b h => by have : b < w.heap.size := h; have := Hz.out; omega) : OwnS 3 31 IsR wo wo.heap.size (Old w) _ _), fun b h => h, fun b h => .inl h⟩
        case round =>
          obtain ⟨m, S2, hm, rfl, hbi, hown2, hS2⟩ := hrel
          have Hbi := Lib.hid hbi
          have HS2 := Lib.hid hS2.out
          have Hown2 := Lib.hid hown2
          have hwwi : Below w.heap.size w wo := below_step HB0.out hbw
          have hwi : Below w.heap.size w wr := hwwi.trans (hbi.mono hwwi.size)
          have cQ0 := keep_cell hbi cP0
          have hsi := hbi.size
          clear hS2 hown2
          rcases Nat.lt_or_ge m M with hlt2 | hge2
          · obtain ⟨row, hr, hrr⟩ := rawM_get (m := q.A) (j := m) (by rw [HG.out.rows, ← HMl.out]; exact hlt2)
            have hrl : row.length = n := Hrow.out row (List.mem_of_getElem? hr)
            obtain ⟨x, hx, hrx⟩ := rawV_get (l := row) (j := j) (by omega)
            obtain ⟨b2, o2, Y1, Y2, rfl, hSb2, helr, d0⟩ := isM_get HA.out hrr
            obtain ⟨b1, o1, X1, X2, X3, X4, rfl, hSb1, helx, c0, c1, c2⟩ := isV_get helr hrx
            obtain ⟨x0, hx0⟩ : ∃ s, s = (raw x).neg := ⟨_, rfl⟩
            obtain ⟨x1, hx1⟩ : ∃ s, s = (raw x).num.length := ⟨_, rfl⟩
            obtain ⟨x2, hx2⟩ : ∃ s, s = (raw x).den.length := ⟨_, rfl⟩
            have er : (rawV row).length = n := (rawV_len row).trans hrl
            rw [er] at d0
            rw [← hx0] at c0
            rw [← hx1] at c1
            rw [← hx2] at c2
            rw [← hx0, ← hx1, ← hx2] at helx
            have hSb1' : b1 < w.heap.size := hSb1
            have hSb2' : b2 < w.heap.size := hSb2
            have e0 := keep_cell hwi c0
            have e1 := keep_cell hwi c1
            have e2 := keep_cell hwi c2
            have e3 := keep_cell hwi d0
            have Hel := Lib.hid (IsQ.stb.to (isR_isQ helx) (same_below (S := Old w) hwi fun b h => h))
            have Hr := Lib.hid hr
            have Hx := Lib.hid hx
            obtain ⟨p, hp⟩ : ∃ p, p = -x := ⟨_, rfl⟩
            have Hp := Lib.hid hp
            have Hwi := Lib.hid hwi
            have cr := ratCells
            clear hr hx hrr hrx helr helx hx0 hx1 hx2 c0 c1 c2 d0 hp er hrl hwi hwwi hbw hbi
            go_wp2_with fail
            refine (rneg_s (S := Old w) Hel.out (fun b h => Nat.lt_of_lt_of_le h Hwi.out.size) Hp.out).mono ?_
            rintro e w6 ⟨⟨v6, rfl, hv6⟩, hb⟩
            have Hb6 := Lib.hid hb
            have Hv6 := Lib.hid hv6
            have Hbs := Lib.hid (below_step Hbi.out hb)
            have hbase : wo.heap.size ≤ w6.heap.size := Hbs.out.size
            obtain ⟨s6, P6, k6, O6, l6, rfl, _, _, _⟩ := isQ_open hv6
            have hown6 := OwnS.step IsR.stb (T := fun b => S2 b ∨ (wr.heap.size ≤ b ∧ b < w6.heap.size)) Hown2.out Hb6.out (fun b h => .inl h) (fun b h => h)
            have hel6 := IsQ.stb.to Hv6.out (same_imp (T := fun b => S2 b ∨ (wr.heap.size ≤ b ∧ b < w6.heap.size)) fun b h => .inl (HS2.out.1 b h))
            clear hb hv6 e0 e1 e2 e3
            go_wp2_with (at_builtin; refine wp_appS elR rfl _ _ rfl IsR.stb rfl rfl rfl hown6 hel6 rfl (by intro u hu; simp [Value.cells] at hu; rcases hu with rfl | rfl | rfl <;> rfl) (by have h1 := List.length_take_le m (negV (colQ q.A j)); rw [rawV_len]; omega) hbase ?_; intro v7 w7 hown7 hb7 hz7)
            go_roundw
            case rel =>
              refine ⟨m + 1, fun b => S2 b ∨ (wr.heap.size ≤ b ∧ b < w6.heap.size), by omega, by go_num, Hbs.out.trans hb7, ?_, fun b hb => .inl (HS2.out.1 b hb), fun b hb => by rcases hb with hb | hb; exact HS2.out.2 b hb; exact .inr (Nat.le_trans hsi hb.1)⟩
              rw [colQ_take Hr.out Hx.out, ← Hp.out, rawV, List.map_append]
              exact hown7
            case measure => simp [intOf]; omega
          · obtain rfl : m = M := by omega
            have e : (negV (colQ q.A j)).take m = negV (colQ q.A j) := List.take_of_length_le (by rw [negV_len, colQ_len, HG.out.rows, ← HMl.out]; exact Nat.le_refl _)
            rw [e] at Hown2
            have hvr : IsV wr (fun b => S b ∨ (wo.heap.size ≤ b ∧ b < wr.heap.size)) _ _ := OwnS.isS IsR.stb Hown2.out (fun b hb => by
              obtain ⟨_, _, _, _, h4⟩ := Hown2.out
              rcases HS2.out.2 b hb with h | h
              · exact .inl (HS.out.1 b h)
              · exact .inr ⟨h, (h4 b hb).1⟩) (fun b h1 h2 => .inr ⟨h1, h2⟩)
            have hown3 := OwnS.step IsV.stb (T := fun b => S b ∨ (wo.heap.size ≤ b ∧ b < wr.heap.size)) Hown.out Hbi.out (fun b h => .inl h) (fun b h => h)
            have HRi := Lib.hid (Row.next HRw.out Hbi.out)
            obtain ⟨Pr, kr, hPr, hrlen⟩ := isV_len hvr
            subst hPr
            obtain ⟨g0, g1, g2⟩ := cells3 HRi.out
            have hbase : wE.heap.size ≤ wr.heap.size := by omega
            have hgr : g < wo.heap.size := HRw.out.lt
            clear e hwi hwwi hbw hbi
            go_wp2_with (at_builtin; refine wp_appS elV rfl _ _ rfl IsV.stb rfl rfl rfl hown3 hvr rfl (by intro u hu; simp [Value.cells] at hu; subst hu; rfl) (by have h1 := List.length_take_le j (dualQ q).A; rw [rawM_len]; omega) hbase ?_; intro v7 w7 hown7 hb7 hz7; obtain ⟨A7, c7, hA7⟩ := hown7.slice; rw [List.length_append, List.length_singleton] at hA7; subst hA7; have R7 := Row.below HRi.out hb7 gE; obtain ⟨h0, h1, h2⟩ := cells3 R7; obtain ⟨f0, f1, f2⟩ := free3 R7)
            go_roundw
            case rel =>
              have hS7 : ∀ b, (S b ∨ (wo.heap.size ≤ b ∧ b < wr.heap.size)) → b ≠ g := fun b hb => by rcases hb with hb | hb; exact (HS.out.2 b hb).2; omega
              refine ⟨j + 1, fun b => S b ∨ (wo.heap.size ≤ b ∧ b < wr.heap.size), _, by omega, by go_num, ((Hbw.out.trans (Hbi.out.mono (by omega))).trans (hb7.mono (by omega))).setCell (p := ⟨g, 0, none⟩) zg _, (grown_then Hgr.out ((Hbi.out.mono hszE).trans hb7)).trans (grown_set _ g 0 _), R7.set_ 0 _, ?_, fun b hb => .inl (HS.out.1 b hb), fun b hb => ⟨by rcases hb with hb | hb; exact (HS.out.2 b hb).1; right; omega, hS7 b hb⟩⟩
              refine OwnS.stepG IsV.stb ?_ (grown_set _ g 0 _) gE hS7
              rw [take_snoc (dualA_get (by rw [← Hnl.out]; exact hlt)), rawM_snoc]
              exact hown7
            case measure => simp [intOf]; omega
      · obtain rfl : j = n := by omega
        have e : (dualQ q).A.take j = (dualQ q).A := List.take_of_length_le (by unfold dualQ; simp only; rw [List.length_map, List.length_range, ← Hnl.out]; exact Nat.le_refl _)
        rw [e] at Hown
        have hT : IsM wo (SP w w0 g wo) va (rawM (dualQ q).A) := OwnS.isS IsV.stb Hown.out (fun b hb => by obtain ⟨_, _, _, _, h4⟩ := Hown.out; exact ⟨(HS.out.2 b hb).1, (h4 b hb).1, (HS.out.2 b hb).2⟩) (fun b h1 h2 => ⟨.inr (by have := HbE.out.size; omega), h2, by omega⟩)
        have VB1 := IsV.stb.to VB.out (same_grown Hgr.out fun b h => h.2)
        have VC1 := IsV.stb.to VC.out (same_grown Hgr.out fun b h => h.2)
        have HT := Lib.hid hT
        have HVB := Lib.hid VB1
        have HVC := Lib.hid VC1
        obtain ⟨Pm, km, hPm, _⟩ := isM_len hT
        subst hPm
        have RZr := Lib.hid (RZ.out.next hbw)
        obtain ⟨g0, g1, g2⟩ := cells3 HRw.out
        obtain ⟨z0, z1, z2⟩ := cells3 RZr.out
        obtain ⟨y0, y1, y2⟩ := free3 RZr.out
        clear hT VB1 VC1 e hbw
        go_wp2_with fail
        refine ret_prog Tryz.results68 rfl rfl (Row.put3 RZr.out _ _ _) ?_
        refine ⟨⟨_, rfl, ?_⟩, below_put3 (below_step HB0.out Hbw.out) (by omega) _ _ _⟩
        have hold : ∀ b, (fun b => b < wo.heap.size) b → Old (put3 wo (w.heap.size + 1) (.slice Pm (rawM (dualQ q).A).length km) (.slice P3 (rawV (negV q.C)).length k3) (.slice P4 (rawV (negV q.B)).length k4)) b := fun b h => by show b < _; rw [size_put3]; exact h
        exact isP_mk (p := rawP (dualQ q)) (IsM.stb.to (IsM.stb.to HT.out (same_put3 (T := fun b => b < wo.heap.size) fun b h => ⟨by have := h.1; omega, h.2.1⟩)) (same_imp hold)) (IsV.stb.to (IsV.stb.to (IsV.stb.to HVB.out (same_imp (T := SP w w0 g wo) fun b h => ⟨h.1, Nat.lt_of_lt_of_le h.2.1 Hgr.out.size, h.2.2⟩)) (same_put3 (T := fun b => b < wo.heap.size) fun b h => ⟨by have := h.1; omega, h.2.1⟩)) (same_imp hold)) (IsV.stb.to (IsV.stb.to (IsV.stb.to HVC.out (same_imp (T := SP w w0 g wo) fun b h => ⟨h.1, Nat.lt_of_lt_of_le h.2.1 Hgr.out.size, h.2.2⟩)) (same_put3 (T := fun b => b < wo.heap.size) fun b h => ⟨by have := h.1; omega, h.2.1⟩)) (same_imp hold))
end Go.Proofs.YtblpaocignlpkaaGreatDoor
/-
  The contract of the reference's Fits.
-/
namespace Go.Proofs.YtblpaocignlpkaaGreatDoor
open Go.RowKit
set_option linter.unusedVariables false

set_option maxHeartbeats 1000000 in
theorem rfits_n {w : World} {va : Value} {x : Nat} {lo hi : Nat} (ha : IsN w lo hi va x) (hi1 : hi ≤ w.heap.size) :
    Calls Tryz.prog 118 #[va] w fun e w' => (∃ v, e = .returned (.tuple #[v, .int .i64 (fite x)]) ∧ IsN w' w.heap.size w'.heap.size v (fitv x)) ∧ Below w.heap.size w w' := by
  obtain ⟨A, c, rfl, _, _, hA⟩ := ha
  by_cases h : (lim x).length ≤ 1024
  · rw [fitv_le h, fite_le h]
    go_enter Tryz.func118, Tryz.ntmps118
    go_wp2_with (at_builtin; refine wp_appN elN rfl _ _ rfl rfl (own_empty w 103 103) rfl (cel_length _ _) (hA.alloc hi1 _) (cel_one _ _) (by simp only [List.length_nil]; omega) (by simp) ?_; intro v1 w1 hown hb hz)
    go_ret2
    exact ⟨⟨_, rfl, Own.isL (by simpa using hown)⟩, ((Below.refl _ w).alloc (Nat.le_refl _) _).trans hb⟩
  · rw [fitv_gt h, fite_gt h]
    go_enter Tryz.func118, Tryz.ntmps118
    go_wp2
    go_ret2
    exact ⟨⟨_, rfl, IsN.zero⟩, Below.refl _ _⟩
end Go.Proofs.YtblpaocignlpkaaGreatDoor
/-
  Contracts of the reference: Fits, both, Gap.
-/
namespace Go.Proofs.YtblpaocignlpkaaGreatDoor
open Go.RowKit
set_option linter.unusedVariables false

theorem fite_eq {x : Nat} : (fite x != 0) = !decide ((lim x).length ≤ 1024) := by
  rcases Decidable.em ((lim x).length ≤ 1024) with h | h
  · rw [fite_le h, decide_eq_true h]; rfl
  · rw [fite_gt h, decide_eq_false h]; rfl

set_option maxRecDepth 100000 in
set_option maxHeartbeats 2000000 in
theorem rfits_q {w : World} {v : Value} {q : Rat} (h : IsQ w (Old w) v q) : Calls Tryz.prog 61 #[v] w fun e w' => (∃ v', e = .returned (.tuple #[v', .int .i64 (gapE q)]) ∧ IsR w' (New w.heap.size w') v' (gapR q)) ∧ Below w.heap.size w w' := by
  have HQ := Lib.hid h
  obtain ⟨s, A, cA, B, cB, rfl, hs, hn, hd⟩ := isQ_open h
  clear h
  obtain ⟨w0, hw0, hb0, rA, rZ, Hz⟩ := boxes2 w #[.bool s, .slice A (lim q.num.natAbs).length cA, .slice B (lim q.den).length cB] #[.bool false, .slice none 0 0, .slice none 0 0] 31 31
  have HB0 := Lib.hid hb0
  have RA := Lib.hid rA
  have RZ := Lib.hid rZ
  obtain ⟨c0, c1, c2⟩ := cells3 rA
  clear hb0 rA rZ
  obtain ⟨b1, hb1⟩ : ∃ b, b = decide ((lim q.num.natAbs).length ≤ 1024) := ⟨_, rfl⟩
  obtain ⟨b2, hb2⟩ : ∃ b, b = decide ((lim q.den).length ≤ 1024) := ⟨_, rfl⟩
  obtain ⟨e1, he1⟩ : ∃ e, e = fite q.num.natAbs := ⟨_, rfl⟩
  obtain ⟨e2, he2⟩ : ∃ e, e = fite q.den := ⟨_, rfl⟩
  have p1 : (e1 != 0) = !b1 := by rw [he1, hb1]; exact fite_eq
  have p2 : (e2 != 0) = !b2 := by rw [he2, hb2]; exact fite_eq
  have Hb1 := Lib.hid hb1
  have Hb2 := Lib.hid hb2
  have He1 := Lib.hid he1
  have He2 := Lib.hid he2
  clear hb1 hb2 he1 he2
  cases b1
  all_goals cases b2
  all_goals
    go_enter Tryz.func61, Tryz.ntmps61
    go_wp2_with fail
    clear hw0
    refine (rfits_n (numS_old (IsK.stb.to hn.out (same_old HB0.out))) (Nat.le_refl _)).mono ?_
    rw [← He1.out]
    rintro e w1 ⟨⟨v1, rfl, hv1⟩, hb⟩
    have HB1 := Lib.hid (below_step HB0.out hb)
    have V1 := Lib.hid (isN_new hv1)
    have RZ1 := Lib.hid (RZ.out.next hb)
    clear c0 c1 c2
    obtain ⟨c0, c1, c2⟩ := cells3 (RA.out.next hb)
    have hs1 := hb.size
    obtain ⟨P1, k1, rfl, _, _, _⟩ := id hv1
    clear hb hv1
    go_wp2_with fail
    refine (rfits_n (numS_old (IsK.stb.to hd.out (same_old HB1.out))) (Nat.le_refl _)).mono ?_
    rw [← He2.out]
    rintro e w2 ⟨⟨v2, rfl, hv2⟩, hb⟩
    have HB2 := Lib.hid (below_step HB1.out hb)
    have V2 := Lib.hid (isN_new hv2)
    have V1' := Lib.hid (IsK.stb.fresh V1.out hb)
    have RZ2 := Lib.hid (RZ1.out.next hb)
    obtain ⟨d0, d1, d2⟩ := cells3 RZ2.out
    obtain ⟨f0, f1, f2⟩ := free3 RZ2.out
    have c0' := keep_cell hb c0
    have hs2 := RZ1.out.lt
    obtain ⟨P2, k2, rfl, _, _, _⟩ := id hv2
    clear hb hv2 c0 c1 c2
    go_wp2_with fail
    refine bodyPost_ret (results_rat2 rfl rfl (Row.put3 RZ2.out _ _ _)) rfl ?_
  rotate_left 3
  focus
    have hf : fitsQ q = true := fitsQ_true.2 ⟨of_decide_eq_true Hb1.out.symm, of_decide_eq_true Hb2.out.symm⟩
    have g1 : gapE q = 0 := by unfold gapE; rw [hf]; rfl
    have g2 : gapR q = raw q := by unfold gapR; rw [hf]; rfl
    have w1' := Hz.out
    refine ⟨⟨_, by rw [g1]; rfl, ?_⟩, below_put3 HB2.out (by omega) _ _ _⟩
    rw [g2]
    have e1v : fitv q.num.natAbs = q.num.natAbs := fitv_le (of_decide_eq_true Hb1.out.symm)
    have e2v : fitv q.den = q.den := fitv_le (of_decide_eq_true Hb2.out.symm)
    have hold : ∀ (lo : Nat) (x y z : Value), w.heap.size + 2 ≤ lo → Same (New lo w2) (New w.heap.size (put3 w2 (w.heap.size + 1) x y z)) w2 (put3 w2 (w.heap.size + 1) x y z) := fun lo x y z hlo => same_put3 fun b h => ⟨by have := h.1; omega, by have := h.1; omega, by show b < _; rw [size_put3]; exact h.2⟩
    have n1 := IsK.stb.to V1'.out (hold _ (.bool s) (.slice P1 (lim (fitv q.num.natAbs)).length k1) (.slice P2 (lim (fitv q.den)).length k2) (by omega))
    have n2 := IsK.stb.to V2.out (hold _ (.bool s) (.slice P1 (lim (fitv q.num.natAbs)).length k1) (.slice P2 (lim (fitv q.den)).length k2) (by omega))
    have hr : raw q = ⟨s, lim (fitv q.num.natAbs), lim (fitv q.den)⟩ := by rw [e1v, e2v, hs.out]; rfl
    exact isQ_mk hr n1 n2
  all_goals
    have hf : fitsQ q = false := by
      cases hx : fitsQ q with
      | false => rfl
      | true =>
        obtain ⟨x1, x2⟩ := fitsQ_true.1 hx
        first
          | (have h9 := Hb1.out; rw [decide_eq_true x1] at h9; cases h9; done)
          | (have h9 := Hb2.out; rw [decide_eq_true x2] at h9; cases h9; done)
    have g1 : gapE q = 5 := by unfold gapE; rw [hf]; rfl
    have g2 : gapR q = nilRaw := by unfold gapR; rw [hf]; rfl
    exact ⟨⟨_, by rw [g1]; rfl, by rw [g2]; exact isR_nil⟩, below_put3 HB2.out (by omega) _ _ _⟩

end Go.Proofs.YtblpaocignlpkaaGreatDoor
/-
  The contracts of the reference's Fits (lists, matrices whose numbers fit) and Of.
-/
namespace Go.Proofs.YtblpaocignlpkaaGreatDoor
open Go.RowKit
set_option linter.unusedVariables false

theorem rawV_snoc (l : List Rat) (x : Rat) : rawV (l ++ [x]) = rawV l ++ [raw x] := by simp [rawV]
theorem gap_fits {q : Rat} (h : Sz q 1024) : gapR q = raw q ∧ gapE q = 0 := by
  unfold gapR gapE
  rw [if_pos (fitsQ_true.2 h), if_pos (fitsQ_true.2 h)]
  exact ⟨rfl, rfl⟩

set_option maxRecDepth 100000 in
set_option maxHeartbeats 2000000 in
theorem rfitsv_l {w : World} {v : Value} {l : List Rat} (h : IsV w (Old w) v (rawV l)) (hs : ∀ e ∈ l, Sz e 1024) (hl : l.length ≤ 1000) :
    Calls Tryz.prog 73 #[v] w fun e w' => (∃ v', e = .returned (.tuple #[v', .int .i64 0]) ∧ IsV w' (New w.heap.size w') v' (rawV l)) ∧ Below w.heap.size w w' := by
  have H := Lib.hid h
  have Hs := Lib.hid hs
  obtain ⟨A, c, rfl, _⟩ := isV_len h
  obtain ⟨n, hn⟩ : ∃ n, n = l.length := ⟨_, rfl⟩
  rw [rawV_len, ← hn] at H ⊢
  rw [← hn] at hl
  have Hn := Lib.hid hn
  clear h hs hn
  go_enter Tryz.func73, Tryz.ntmps73
  go_wp2_with fail
  go_loopw [5, 4] (fun i ov wr => ∃ (j : Nat) (S : Nat → Prop), j ≤ n ∧ i = .int .i64 (j : Int) ∧ Below w.heap.size w wr ∧ Hid (OwnS 3 31 IsR wr w.heap.size S ov (rawV (l.take j))) ∧ Hid (∀ b, S b → w.heap.size ≤ b)) (fun i _ _ => n - (intOf i).toNat)
  case atStart => exact ⟨0, fun _ => False, Nat.zero_le _, rfl, Below.refl _ _, OwnS.nil (fun b hb => hb.elim), fun b hb => hb.elim⟩
  case round =>
    obtain ⟨j, S, hj, rfl, hbw, hrel, hS⟩ := hrel
    have Hbw := Lib.hid hbw
    have Own := Lib.hid hrel.out
    have HS := Lib.hid hS.out
    clear hrel hS
    rcases Nat.lt_or_ge j n with hlt | hge
    · obtain ⟨q, hq, hqr⟩ := rawV_get (l := l) (j := j) (by rw [← Hn.out]; exact hlt)
      obtain ⟨b1, o1, X1, X2, X3, X4, rfl, _, helb, c0, c1, c2⟩ := isV_get (IsV.stb.to H.out (same_old hbw)) hqr
      have QD := Lib.hid (isR_isQ helb)
      have Hq := Lib.hid hq
      have Hsq := Lib.hid (gap_fits (Hs.out q (List.mem_of_getElem? hq)))
      have cr := ratCells
      have Hlt := Lib.hid hlt
      clear hq hqr helb hbw
      go_wp2_with fail
      refine (rfits_q QD.out).mono ?_
      rw [Hsq.out.1, Hsq.out.2]
      rintro e w5 ⟨⟨v5, rfl, hv⟩, hb5⟩
      obtain ⟨P, k, Q, m, rfl, _⟩ := id hv
      obtain ⟨w6, hw6, hb6, r6, _⟩ := boxes1 w5 #[.bool (raw q).neg, .slice P (raw q).num.length k, .slice Q (raw q).den.length m] 31
      obtain ⟨u0, u1, u2⟩ := cells3 r6
      have Own5 := Lib.hid (OwnS.step IsR.stb (T := fun b => S b ∨ (wr.heap.size ≤ b ∧ b < w5.heap.size)) Own.out hb5 (fun b h => .inl h) (fun b h => h))
      have Own6 := Lib.hid (OwnS.step IsR.stb (T := fun b => S b ∨ (wr.heap.size ≤ b ∧ b < w5.heap.size)) Own5.out hb6 (fun b h => h) (fun b h => .inl h))
      have El6 := Lib.hid (IsR.stb.to (IsR.stb.to hv (same_new hb6)) (same_imp (S := New wr.heap.size w6) (T := New wr.heap.size w6) fun b h => h))
      have El : Hid (IsR w6 (fun b => S b ∨ (wr.heap.size ≤ b ∧ b < w5.heap.size)) (.agg #[.bool (raw q).neg, .slice P (raw q).num.length k, .slice Q (raw q).den.length m]) (raw q)) := IsR.stb.to (IsR.stb.to hv (same_imp (S := New wr.heap.size w5) (T := fun b => S b ∨ (wr.heap.size ≤ b ∧ b < w5.heap.size)) fun b h => .inr h)) (fun b h => ⟨h, fun o => hb6.cell (p := ⟨b, o, none⟩) (by obtain ⟨_, _, _, _, h4⟩ := Own5.out; exact (h4 b h).1)⟩)
      have Hbw6 := Lib.hid (below_step (below_step Hbw.out hb5) hb6)
      have hbase : w.heap.size ≤ w6.heap.size := Hbw6.out.size
      clear c0 c1 c2 hv hb5 hb6 r6 El6 Own5
      go_wp2_with (at_builtin; refine wp_appS elR rfl _ _ rfl IsR.stb rfl rfl rfl Own6.out El.out rfl (by intro u hu; simp [Value.cells] at hu; rcases hu with rfl | rfl | rfl <;> rfl) (by have h1 := List.length_take_le j l; rw [rawV_len]; omega) hbase ?_; intro v7 w7 hown7 hb7 hz7)
      go_roundw
      case rel =>
        refine ⟨j + 1, fun b => S b ∨ (wr.heap.size ≤ b ∧ b < w5.heap.size), by have := Hlt.out; omega, by go_num, Hbw6.out.trans hb7, ?_, fun b hb => by rcases hb with hb | hb; exact HS.out b hb; exact Nat.le_trans Hbw.out.size hb.1⟩
        rw [Hid, take_snoc Hq.out, rawV_snoc]
        exact hown7
      case measure => have := Hlt.out; simp [intOf]; omega
    · obtain rfl : j = n := by omega
      have e : l.take j = l := List.take_of_length_le (by rw [← Hn.out]; exact Nat.le_refl _)
      clear hbw
      go_wp2_with fail
      go_ret2
      refine ⟨⟨_, rfl, ?_⟩, Hbw.out⟩
      have h1 := Own.out
      rw [e] at h1
      exact OwnS.isS IsR.stb (T := New w.heap.size wr) h1 (fun b hb => ⟨HS.out b hb, by obtain ⟨_, _, _, _, h4⟩ := h1; exact (h4 b hb).1⟩) (fun b h1 h2 => ⟨h1, h2⟩)

set_option maxRecDepth 100000 in
set_option maxHeartbeats 2000000 in
theorem rfitsm_l {w : World} {v : Value} {l : List (List Rat)} (h : IsM w (Old w) v (rawM l)) (hs : ∀ r ∈ l, (∀ e ∈ r, Sz e 1024) ∧ r.length ≤ 1000) (hl : l.length ≤ 1000) :
    Calls Tryz.prog 72 #[v] w fun e w' => (∃ v', e = .returned (.tuple #[v', .int .i64 0]) ∧ IsM w' (New w.heap.size w') v' (rawM l)) ∧ Below w.heap.size w w' := by
  have H := Lib.hid h
  have Hs := Lib.hid hs
  obtain ⟨A, c, rfl, _⟩ := isM_len h
  obtain ⟨n, hn⟩ : ∃ n, n = l.length := ⟨_, rfl⟩
  rw [rawM_len, ← hn] at H ⊢
  rw [← hn] at hl
  have Hn := Lib.hid hn
  clear h hs hn
  go_enter Tryz.func72, Tryz.ntmps72
  go_wp2_with fail
  go_loopw [5, 4] (fun i ov wr => ∃ (j : Nat) (S : Nat → Prop), j ≤ n ∧ i = .int .i64 (j : Int) ∧ Below w.heap.size w wr ∧ Hid (OwnS 1 25 IsV wr w.heap.size S ov (rawM (l.take j))) ∧ Hid (∀ b, S b → w.heap.size ≤ b)) (fun i _ _ => n - (intOf i).toNat)
  case atStart => exact ⟨0, fun _ => False, Nat.zero_le _, rfl, Below.refl _ _, OwnS.nil (fun b hb => hb.elim), fun b hb => hb.elim⟩
  case round =>
    obtain ⟨j, S, hj, rfl, hbw, hrel, hS⟩ := hrel
    have Hbw := Lib.hid hbw
    have Own := Lib.hid hrel.out
    have HS := Lib.hid hS.out
    clear hrel hS
    rcases Nat.lt_or_ge j n with hlt | hge
    · obtain ⟨row, hr, hrr⟩ := rawM_get (m := l) (j := j) (by rw [← Hn.out]; exact hlt)
      obtain ⟨b2, o2, R1, R2, rfl, _, helr, d0⟩ := isM_get (IsM.stb.to H.out (same_old hbw)) hrr
      have er : (rawV row).length = row.length := rawV_len row
      rw [er] at d0 helr
      have QR := Lib.hid helr
      have Hr := Lib.hid hr
      have Hsr := Lib.hid (Hs.out row (List.mem_of_getElem? hr))
      have Hlt := Lib.hid hlt
      clear hr hrr helr hbw er
      go_wp2_with fail
      refine (rfitsv_l QR.out Hsr.out.1 Hsr.out.2).mono ?_
      rintro e w5 ⟨⟨v5, rfl, hv⟩, hb5⟩
      have Own5 := Lib.hid (OwnS.step IsV.stb (T := fun b => S b ∨ (wr.heap.size ≤ b ∧ b < w5.heap.size)) Own.out hb5 (fun b h => .inl h) (fun b h => h))
      have El : Hid (IsV w5 (fun b => S b ∨ (wr.heap.size ≤ b ∧ b < w5.heap.size)) v5 (rawV row)) := IsV.stb.to hv (same_imp (S := New wr.heap.size w5) (T := fun b => S b ∨ (wr.heap.size ≤ b ∧ b < w5.heap.size)) fun b h => .inr h)
      obtain ⟨P, k, rfl, _⟩ := isV_len hv
      have Hbw5 := Lib.hid (below_step Hbw.out hb5)
      have hbase : w.heap.size ≤ w5.heap.size := Hbw5.out.size
      clear d0 hv hb5
      go_wp2_with (at_builtin; refine wp_appS elV rfl _ _ rfl IsV.stb rfl rfl rfl Own5.out El.out rfl (by intro u hu; simp [Value.cells] at hu; subst hu; rfl) (by have h1 := List.length_take_le j l; rw [rawM_len]; omega) hbase ?_; intro v7 w7 hown7 hb7 hz7)
      go_roundw
      case rel =>
        refine ⟨j + 1, fun b => S b ∨ (wr.heap.size ≤ b ∧ b < w5.heap.size), by have := Hlt.out; omega, by go_num, Hbw5.out.trans hb7, ?_, fun b hb => by rcases hb with hb | hb; exact HS.out b hb; exact Nat.le_trans Hbw.out.size hb.1⟩
        rw [Hid, take_snoc Hr.out, rawM_snoc]
        exact hown7
      case measure => have := Hlt.out; simp [intOf]; omega
    · obtain rfl : j = n := by omega
      have e : l.take j = l := List.take_of_length_le (by rw [← Hn.out]; exact Nat.le_refl _)
      clear hbw
      go_wp2_with fail
      go_ret2
      refine ⟨⟨_, rfl, ?_⟩, Hbw.out⟩
      have h1 := Own.out
      rw [e] at h1
      exact OwnS.isS IsV.stb (T := New w.heap.size wr) h1 (fun b hb => ⟨HS.out b hb, by obtain ⟨_, _, _, _, h4⟩ := h1; exact (h4 b hb).1⟩) (fun b h1 h2 => ⟨h1, h2⟩)

end Go.Proofs.YtblpaocignlpkaaGreatDoor
