/-
  The zbe of the reference's of.
-/
import Derived.Test.YtblpaocignlpkaaGreatDoorProofDualAccepts05
import Derived.Test.YtblpaocignlpkaaGreatDoorCore12
import Derived.Test.YtblpaocignlpkaaGreatDoorCore15
namespace Go.Proofs.YtblpaocignlpkaaGreatDoor
open Go.RowKit
set_option linter.unusedVariables false
theorem dualA_get {q : ProgQ} {j : Nat} (h : j < q.C.length) : (zca q).A[j]? = some (negV (colQ q.A j)) := by
  unfold zca
  simp only
  rw [List.getElem?_map, List.getElem?_range h]
  rfl
theorem rawM_snoc (m : List (List Rat)) (x : List Rat) : rawM (m ++ [x]) = rawM m ++ [rawV x] := by simp [rawM]
theorem colQ_take {A : List (List Rat)} {row : List Rat} {x : Rat} {j m : Nat} (h : A[m]? = some row) (hx : row[j]? = some x) : (negV (colQ A j)).take (m + 1) = (negV (colQ A j)).take m ++ [-x] := by
  refine zcj (negV_get ?_)
  unfold colQ
  rw [List.getElem?_map, h]
  simp [hx]
set_option maxRecDepth 100000 in
set_option maxHeartbeats 4000000 in
theorem rof_l {w : World} {vp : Value} {q : ProgQ} (hp : IsP w (Old w) vp (rawP q)) (hg : Good q 1024) :
    Calls Tryz.prog 68 #[vp] w fun e w' => (∃ v, e = .returned v ∧ IsP w' (Old w') v (rawP (zca q))) ∧ Below w.heap.size w w' := by
  have HG := Lib.hid hg
  obtain ⟨A, cA, B, cB, C, cC, rfl, hA, hBv, hC⟩ := hp
  simp only [rawP, zay, zek] at hA hBv hC ⊢
  obtain ⟨M, hM⟩ : ∃ m, m = q.B.length := ⟨_, rfl⟩
  obtain ⟨n, hn⟩ : ∃ m, m = q.C.length := ⟨_, rfl⟩
  have hM40 : M ≤ 40 := by rw [hM]; exact hg.nB
  have hn40 : n ≤ 40 := by rw [hn]; exact hg.nC
  have HMl := Lib.hid hM
  have Hnl := Lib.hid hn
  rw [hg.rows, ← hM] at hA ⊢
  rw [← hM] at hBv
  rw [← hn] at hC ⊢
  have HA := Lib.hid hA
  have HB := Lib.hid hBv
  have HC := Lib.hid hC
  have Hrow : Hid (∀ row ∈ q.A, row.length = n) := fun row h => (hg.cols row h).trans hn.symm
  clear hg hA hBv hC hM hn
  obtain ⟨w0, hw0, hb0, rP, rZ, Hz⟩ := zcl w #[.slice A M cA, .slice B M cB, .slice C n cC] #[.slice none 0 0, .slice none 0 0, .slice none 0 0] 27 27
  have HB0 := Lib.hid hb0
  have CP := Lib.hid (zad rP)
  have RZ := Lib.hid rZ
  obtain ⟨cP0, cP1, cP2⟩ := zad rP
  clear rP rZ hb0
  go_enter Tryz.func68, Tryz.ntmps68
  go_wp2_with fail
  clear hw0
  have HS : Hid (∀ W : World, Below w0.heap.size w0 W → W.cell? ⟨w.heap.size, 1, none⟩ = some (.slice B M cB) ∧ W.cell? ⟨w.heap.size, 2, none⟩ = some (.slice C n cC)) := fun W hW => ⟨zab hW CP.out.2.1, zab hW CP.out.2.2⟩
  have D3 : Hid (∀ W : World, Below w0.heap.size w0 W → Calls Tryz.prog 121 #[.slice C n cC] W (fun e w' => (∃ v', e = .returned v' ∧ IsV w' (Grow (Old w) W w') v' (rawV (negV q.C))) ∧ Below W.heap.size W w')) := fun W hW => rminus_s (S0 := Old w) (IsV.stb.to HC.out (zbq (S := Old w) (zaa HB0.out hW) (fun b h => h))) (fun b h => Nat.lt_of_lt_of_le h (zaa HB0.out hW).size) (by rw [← Hnl.out]; omega)
  have D4 : Hid (∀ W : World, Below w0.heap.size w0 W → Calls Tryz.prog 121 #[.slice B M cB] W (fun e w' => (∃ v', e = .returned v' ∧ IsV w' (Grow (Old w) W w') v' (rawV (negV q.B))) ∧ Below W.heap.size W w')) := fun W hW => rminus_s (S0 := Old w) (IsV.stb.to HB.out (zbq (S := Old w) (zaa HB0.out hW) (fun b h => h))) (fun b h => Nat.lt_of_lt_of_le h (zaa HB0.out hW).size) (by rw [← HMl.out]; omega)
  go_region_held3 (fun w' => w'.cell? ⟨w.heap.size, 1, none⟩ = some (.slice B M cB) ∧ w'.cell? ⟨w.heap.size, 2, none⟩ = some (.slice C n cC))
    (exact HS.out _ (by (repeat (first | exact Below.refl _ _ | assumption | refine zae ?_ _ | refine zah ?_ | refine zaf ?_ ?_ _ _ _ | refine zaj ?_ (by omega) | refine zaa ?_ (by assumption))); (first | done | fail)))
    (first
      | (go_at_call 121; (with_reducible refine Calls.mono (D3.out _ (by (repeat (first | exact Below.refl _ _ | assumption | refine zae ?_ _ | refine zah ?_ | refine zaf ?_ ?_ _ _ _ | refine zaj ?_ (by omega) | refine zaa ?_ (by assumption))); (first | done | fail))) ?_); rintro e w3 ⟨⟨v3, rfl, hv3⟩, hb3⟩; have V3 := Lib.hid hv3; obtain ⟨P3, k3, rfl, _⟩ := zau hv3)
      | (go_at_call 121; (with_reducible refine Calls.mono (D4.out _ (by (repeat (first | exact Below.refl _ _ | assumption | refine zae ?_ _ | refine zah ?_ | refine zaf ?_ ?_ _ _ _ | refine zaj ?_ (by omega) | refine zaa ?_ (by assumption))); (first | done | fail))) ?_); rintro e w4 ⟨⟨v4, rfl, hv4⟩, hb4⟩; have V4 := Lib.hid hv4; obtain ⟨P4, k4, rfl, _⟩ := zau hv4; (first | (have rB : Row w4 w3.heap.size 27 [.slice none 0 0, .slice none 0 0, .slice none 0 0] := (Row.next (heap_alloc_new w3 zProg) (by (repeat (first | exact Below.refl _ _ | assumption | refine zae ?_ _ | refine zah ?_ | refine zaf ?_ ?_ _ _ _ | refine zaj ?_ (by omega) | refine zaa ?_ (by assumption))); (first | done | fail)) : Row w4 _ _ _); obtain ⟨gc0, gc1, gc2⟩ := zad rB; obtain ⟨gf0, gf1, gf2⟩ := zax rB) | (have rB : Row w4 w0.heap.size 27 [.slice none 0 0, .slice none 0 0, .slice none 0 0] := (Row.next (heap_alloc_new w0 zProg) (by (repeat (first | exact Below.refl _ _ | assumption | refine zae ?_ _ | refine zah ?_ | refine zaf ?_ ?_ _ _ _ | refine zaj ?_ (by omega) | refine zaa ?_ (by assumption))); (first | done | fail)) : Row w4 _ _ _); obtain ⟨gc0, gc1, gc2⟩ := zad rB; obtain ⟨gf0, gf1, gf2⟩ := zax rB) | (have rB : Row w4 w0.heap.size 27 [.slice none 0 0, .slice none 0 0, .slice none 0 0] := (Row.next (heap_alloc_new (World.drew w0) zProg) (by (repeat (first | exact Below.refl _ _ | assumption | refine zae ?_ _ | refine zah ?_ | refine zaf ?_ ?_ _ _ _ | refine zaj ?_ (by omega) | refine zaa ?_ (by assumption))); (first | done | fail)) : Row w4 _ _ _); obtain ⟨gc0, gc1, gc2⟩ := zad rB; obtain ⟨gf0, gf1, gf2⟩ := zax rB) | skip)))
  all_goals first
    | (have hF := finP (a := .slice none 0 0) (b := .slice P3 (rawV (negV q.C)).length k3) (c := .slice P4 (rawV (negV q.B)).length k4) (wB := w0) (w5 := w4) (X := w3) (g := w3.heap.size) (by (repeat (first | exact Below.refl _ _ | assumption | refine zae ?_ _ | refine zah ?_ | refine zaf ?_ ?_ _ _ _ | refine zaj ?_ (by omega) | refine zaa ?_ (by assumption))); (first | done | fail)) (by (repeat (first | exact Below.refl _ _ | assumption | refine zae ?_ _ | refine zah ?_ | refine zaf ?_ ?_ _ _ _ | refine zaj ?_ (by omega) | refine zaa ?_ (by assumption))); (first | done | fail)) (by (repeat (first | exact Below.refl _ _ | assumption | refine zae ?_ _ | refine zah ?_ | refine zaf ?_ ?_ _ _ _ | refine zaj ?_ (by omega) | refine zaa ?_ (by assumption))); (first | done | fail)) rfl; obtain ⟨wE, hwE, hbE, rE, sE, zE⟩ := hF; have hdr : ∀ W : World, (World.drew W).heap.size = W.heap.size := fun _ => rfl; have z0 := Hz.out; have s3 := hb3.size; have s4 := hb4.size; (try simp only [hdr] at s3 s4); (try simp only [World.size_alloc] at s3 s4); have zz := zE.out; have V3' : IsV w3 (SP w w0 w3.heap.size w3) _ _ := IsV.stb.to V3.out (zat fun b h => by rcases h with h | ⟨h1, h2⟩; (have h : b < w.heap.size := h; exact ⟨.inl h, by omega, by omega⟩); (try simp only [hdr] at h1); (try simp only [World.size_alloc] at h1); exact ⟨.inr (by omega), h2, by omega⟩); have V4' : IsV w4 (SP w w0 w3.heap.size w4) _ _ := IsV.stb.to V4.out (zat fun b h => by rcases h with h | ⟨h1, h2⟩; (have h : b < w.heap.size := h; exact ⟨.inl h, by omega, by omega⟩); (try simp only [hdr] at h1); (try simp only [World.size_alloc] at h1); exact ⟨.inr (by omega), h2, by omega⟩); have VB := Lib.hid (IsV.stb.to (IsV.stb.to (IsV.stb.to V3' (zbq (S := SP w w0 w3.heap.size w3) (show Below w3.heap.size w3 w4 from (by (repeat (first | exact Below.refl _ _ | assumption | refine zae ?_ _ | refine zah ?_ | refine zaf ?_ ?_ _ _ _ | refine zaj ?_ (by omega) | refine zaa ?_ (by assumption))); (first | done | fail))) fun b h => h.2.1)) (sE.out _ fun b h => ⟨Nat.lt_of_lt_of_le h.2.1 (by omega), h.2.2⟩)) (zat (T := SP w w0 w3.heap.size wE) fun b h => ⟨h.1, Nat.lt_of_lt_of_le h.2.1 (by omega), h.2.2⟩)); have VC := Lib.hid (IsV.stb.to (IsV.stb.to V4' (sE.out _ fun b h => h.2)) (zat (T := SP w w0 w3.heap.size wE) fun b h => ⟨h.1, Nat.lt_of_lt_of_le h.2.1 zz.2, h.2.2⟩)); clear V3' V4' s3 s4 hdr z0 zz; (first | rw [hwE] | (change Exit.then _ _ _ _ (put3 _ _ _ _ _); rw [hwE])); go_wp2_with fail; obtain ⟨g, hgg⟩ : ∃ g, g = w3.heap.size := ⟨_, rfl⟩; have zg : w0.heap.size ≤ g := (by have h := zE.out.1; omega); rw [← hgg] at rE VB VC ⊢; clear hgg zE sE)
    | (have hF := finP (a := .slice none 0 0) (b := .slice P3 (rawV (negV q.C)).length k3) (c := .slice P4 (rawV (negV q.B)).length k4) (wB := w0) (w5 := w4) (X := w0) (g := w0.heap.size) (by (repeat (first | exact Below.refl _ _ | assumption | refine zae ?_ _ | refine zah ?_ | refine zaf ?_ ?_ _ _ _ | refine zaj ?_ (by omega) | refine zaa ?_ (by assumption))); (first | done | fail)) (by (repeat (first | exact Below.refl _ _ | assumption | refine zae ?_ _ | refine zah ?_ | refine zaf ?_ ?_ _ _ _ | refine zaj ?_ (by omega) | refine zaa ?_ (by assumption))); (first | done | fail)) (by (repeat (first | exact Below.refl _ _ | assumption | refine zae ?_ _ | refine zah ?_ | refine zaf ?_ ?_ _ _ _ | refine zaj ?_ (by omega) | refine zaa ?_ (by assumption))); (first | done | fail)) rfl; obtain ⟨wE, hwE, hbE, rE, sE, zE⟩ := hF; have hdr : ∀ W : World, (World.drew W).heap.size = W.heap.size := fun _ => rfl; have z0 := Hz.out; have s3 := hb3.size; have s4 := hb4.size; (try simp only [hdr] at s3 s4); (try simp only [World.size_alloc] at s3 s4); have zz := zE.out; have V3' : IsV w3 (SP w w0 w0.heap.size w3) _ _ := IsV.stb.to V3.out (zat fun b h => by rcases h with h | ⟨h1, h2⟩; (have h : b < w.heap.size := h; exact ⟨.inl h, by omega, by omega⟩); (try simp only [hdr] at h1); (try simp only [World.size_alloc] at h1); exact ⟨.inr (by omega), h2, by omega⟩); have V4' : IsV w4 (SP w w0 w0.heap.size w4) _ _ := IsV.stb.to V4.out (zat fun b h => by rcases h with h | ⟨h1, h2⟩; (have h : b < w.heap.size := h; exact ⟨.inl h, by omega, by omega⟩); (try simp only [hdr] at h1); (try simp only [World.size_alloc] at h1); exact ⟨.inr (by omega), h2, by omega⟩); have VB := Lib.hid (IsV.stb.to (IsV.stb.to (IsV.stb.to V3' (zbq (S := SP w w0 w0.heap.size w3) (show Below w3.heap.size w3 w4 from (by (repeat (first | exact Below.refl _ _ | assumption | refine zae ?_ _ | refine zah ?_ | refine zaf ?_ ?_ _ _ _ | refine zaj ?_ (by omega) | refine zaa ?_ (by assumption))); (first | done | fail))) fun b h => h.2.1)) (sE.out _ fun b h => ⟨Nat.lt_of_lt_of_le h.2.1 (by omega), h.2.2⟩)) (zat (T := SP w w0 w0.heap.size wE) fun b h => ⟨h.1, Nat.lt_of_lt_of_le h.2.1 (by omega), h.2.2⟩)); have VC := Lib.hid (IsV.stb.to (IsV.stb.to V4' (sE.out _ fun b h => h.2)) (zat (T := SP w w0 w0.heap.size wE) fun b h => ⟨h.1, Nat.lt_of_lt_of_le h.2.1 zz.2, h.2.2⟩)); clear V3' V4' s3 s4 hdr z0 zz; (first | rw [hwE] | (change Exit.then _ _ _ _ (put3 _ _ _ _ _); rw [hwE])); go_wp2_with fail; obtain ⟨g, hgg⟩ : ∃ g, g = w0.heap.size := ⟨_, rfl⟩; have zg : w0.heap.size ≤ g := (by have h := zE.out.1; omega); rw [← hgg] at rE VB VC ⊢; clear hgg zE sE)
    | (have hF := finP (a := .slice none 0 0) (b := .slice P3 (rawV (negV q.C)).length k3) (c := .slice P4 (rawV (negV q.B)).length k4) (wB := w0) (w5 := w4) (X := World.drew w0) (g := w0.heap.size) (by (repeat (first | exact Below.refl _ _ | assumption | refine zae ?_ _ | refine zah ?_ | refine zaf ?_ ?_ _ _ _ | refine zaj ?_ (by omega) | refine zaa ?_ (by assumption))); (first | done | fail)) (by (repeat (first | exact Below.refl _ _ | assumption | refine zae ?_ _ | refine zah ?_ | refine zaf ?_ ?_ _ _ _ | refine zaj ?_ (by omega) | refine zaa ?_ (by assumption))); (first | done | fail)) (by (repeat (first | exact Below.refl _ _ | assumption | refine zae ?_ _ | refine zah ?_ | refine zaf ?_ ?_ _ _ _ | refine zaj ?_ (by omega) | refine zaa ?_ (by assumption))); (first | done | fail)) rfl; obtain ⟨wE, hwE, hbE, rE, sE, zE⟩ := hF; have hdr : ∀ W : World, (World.drew W).heap.size = W.heap.size := fun _ => rfl; have z0 := Hz.out; have s3 := hb3.size; have s4 := hb4.size; (try simp only [hdr] at s3 s4); (try simp only [World.size_alloc] at s3 s4); have zz := zE.out; have V3' : IsV w3 (SP w w0 w0.heap.size w3) _ _ := IsV.stb.to V3.out (zat fun b h => by rcases h with h | ⟨h1, h2⟩; (have h : b < w.heap.size := h; exact ⟨.inl h, by omega, by omega⟩); (try simp only [hdr] at h1); (try simp only [World.size_alloc] at h1); exact ⟨.inr (by omega), h2, by omega⟩); have V4' : IsV w4 (SP w w0 w0.heap.size w4) _ _ := IsV.stb.to V4.out (zat fun b h => by rcases h with h | ⟨h1, h2⟩; (have h : b < w.heap.size := h; exact ⟨.inl h, by omega, by omega⟩); (try simp only [hdr] at h1); (try simp only [World.size_alloc] at h1); exact ⟨.inr (by omega), h2, by omega⟩); have VB := Lib.hid (IsV.stb.to (IsV.stb.to (IsV.stb.to V3' (zbq (S := SP w w0 w0.heap.size w3) (show Below w3.heap.size w3 w4 from (by (repeat (first | exact Below.refl _ _ | assumption | refine zae ?_ _ | refine zah ?_ | refine zaf ?_ ?_ _ _ _ | refine zaj ?_ (by omega) | refine zaa ?_ (by assumption))); (first | done | fail))) fun b h => h.2.1)) (sE.out _ fun b h => ⟨Nat.lt_of_lt_of_le h.2.1 (by omega), h.2.2⟩)) (zat (T := SP w w0 w0.heap.size wE) fun b h => ⟨h.1, Nat.lt_of_lt_of_le h.2.1 (by omega), h.2.2⟩)); have VC := Lib.hid (IsV.stb.to (IsV.stb.to V4' (sE.out _ fun b h => h.2)) (zat (T := SP w w0 w0.heap.size wE) fun b h => ⟨h.1, Nat.lt_of_lt_of_le h.2.1 zz.2, h.2.2⟩)); clear V3' V4' s3 s4 hdr z0 zz; (first | rw [hwE] | (change Exit.then _ _ _ _ (put3 _ _ _ _ _); rw [hwE])); go_wp2_with fail; obtain ⟨g, hgg⟩ : ∃ g, g = w0.heap.size := ⟨_, rfl⟩; have zg : w0.heap.size ≤ g := (by have h := zE.out.1; omega); rw [← hgg] at rE VB VC ⊢; clear hgg zE sE)
    | (have hF := finPL (a := .slice none 0 0) (b := .slice P3 (rawV (negV q.C)).length k3) (c := .slice P4 (rawV (negV q.B)).length k4) (wB := w0) (w5 := w4) (by (repeat (first | exact Below.refl _ _ | assumption | refine zae ?_ _ | refine zah ?_ | refine zaf ?_ ?_ _ _ _ | refine zaj ?_ (by omega) | refine zaa ?_ (by assumption))); (first | done | fail)); obtain ⟨wE, hwE, hbE, rE, sE, zE⟩ := hF; have hdr : ∀ W : World, (World.drew W).heap.size = W.heap.size := fun _ => rfl; have z0 := Hz.out; have s3 := hb3.size; have s4 := hb4.size; (try simp only [hdr] at s3 s4); (try simp only [World.size_alloc] at s3 s4); have zz := zE.out; have V3' : IsV w3 (SP w w0 w4.heap.size w3) _ _ := IsV.stb.to V3.out (zat fun b h => by rcases h with h | ⟨h1, h2⟩; (have h : b < w.heap.size := h; exact ⟨.inl h, by omega, by omega⟩); (try simp only [hdr] at h1); (try simp only [World.size_alloc] at h1); exact ⟨.inr (by omega), h2, by omega⟩); have V4' : IsV w4 (SP w w0 w4.heap.size w4) _ _ := IsV.stb.to V4.out (zat fun b h => by rcases h with h | ⟨h1, h2⟩; (have h : b < w.heap.size := h; exact ⟨.inl h, by omega, by omega⟩); (try simp only [hdr] at h1); (try simp only [World.size_alloc] at h1); exact ⟨.inr (by omega), h2, by omega⟩); have VB := Lib.hid (IsV.stb.to (IsV.stb.to (IsV.stb.to V3' (zbq (S := SP w w0 w4.heap.size w3) (show Below w3.heap.size w3 w4 from (by (repeat (first | exact Below.refl _ _ | assumption | refine zae ?_ _ | refine zah ?_ | refine zaf ?_ ?_ _ _ _ | refine zaj ?_ (by omega) | refine zaa ?_ (by assumption))); (first | done | fail))) fun b h => h.2.1)) (sE.out _ fun b h => ⟨Nat.lt_of_lt_of_le h.2.1 (by omega), h.2.2⟩)) (zat (T := SP w w0 w4.heap.size wE) fun b h => ⟨h.1, Nat.lt_of_lt_of_le h.2.1 (by omega), h.2.2⟩)); have VC := Lib.hid (IsV.stb.to (IsV.stb.to V4' (sE.out _ fun b h => h.2)) (zat (T := SP w w0 w4.heap.size wE) fun b h => ⟨h.1, Nat.lt_of_lt_of_le h.2.1 zz.2, h.2.2⟩)); clear V3' V4' s3 s4 hdr z0 zz; (first | rw [hwE] | (change Exit.then _ _ _ _ (put3 _ _ _ _ _); rw [hwE])); go_wp2_with fail; obtain ⟨g, hgg⟩ : ∃ g, g = w4.heap.size := ⟨_, rfl⟩; have zg : w0.heap.size ≤ g := (by have h := zE.out.1; omega); rw [← hgg] at rE VB VC ⊢; clear hgg zE sE)
  all_goals clear HS D3 D4 V3 V4 hv3 hv4
  all_goals
    have RE := Lib.hid rE
    have HbE := Lib.hid hbE
    have gE : g < wE.heap.size := rE.lt
    clear rE hbE hwE cP0 cP1 cP2
    go_loopw [4, 5, 6] (fun k row i wr => ∃ (j : Nat) (S : Nat → Prop) (va : Value), j ≤ n ∧ k = .int .i64 (j : Int) ∧ Below w0.heap.size w0 wr ∧ wE.grownBy wr (some g) ∧ Row wr g 27 [va, .slice P3 (rawV (negV q.C)).length k3, .slice P4 (rawV (negV q.B)).length k4] ∧ OwnS 1 25 IsV wr wE.heap.size S va (rawM ((zca q).A.take j)) ∧ Hid ((∀ b, b < w.heap.size → S b) ∧ ∀ b, S b → (b < w.heap.size ∨ w0.heap.size ≤ b) ∧ b ≠ g)) (fun k _ _ _ => n - (intOf k).toNat)
    case atStart => exact ⟨0, Old w, _, Nat.zero_le _, rfl, HbE.out, zdr (Below.refl _ _), RE.out, by simpa [rawM] using (OwnS.nil (fun b h => by have : b < w.heap.size := h; have := Hz.out; omega) : OwnS 1 25 IsV wE wE.heap.size (Old w) _ _), fun b h => h, fun b h => by have : b < w.heap.size := h; have := Hz.out; exact ⟨.inl h, by omega⟩⟩
    case round =>
      obtain ⟨wo, rfl⟩ : ∃ x, x = wr := ⟨_, rfl⟩
      obtain ⟨j, S, va, hj, rfl, hbw, hgr, hrow, hown, hS⟩ := hrel
      have Hbw := Lib.hid hbw
      have Hgr := Lib.hid hgr
      have HRw := Lib.hid hrow
      have HS := Lib.hid hS.out
      have Hown := Lib.hid hown
      have hzz := Hz.out
      have hszE := hgr.size
      have hszw := hbw.size
      have cP0 := zab hbw CP.out.1
      have cP2 := zab hbw CP.out.2.2
      clear hS hgr hrow hown
      rcases Nat.lt_or_ge j n with hlt | hge
      · clear hzz
        go_wp2_with fail
        go_loopw [5, 6] (fun row i wr => ∃ (m : Nat) (S2 : Nat → Prop), m ≤ M ∧ i = .int .i64 (m : Int) ∧ Below wo.heap.size wo wr ∧ OwnS 3 31 IsR wr wo.heap.size S2 row (rawV ((negV (colQ q.A j)).take m)) ∧ Hid ((∀ b, b < w.heap.size → S2 b) ∧ ∀ b, S2 b → b < w.heap.size ∨ wo.heap.size ≤ b)) (fun _ i _ => M - (intOf i).toNat)
        case atStart => exact ⟨0, Old w, Nat.zero_le _, rfl, Below.refl _ _, by simpa [rawV] using (OwnS.nil (fun b h => by have : b < w.heap.size := h; have := Hz.out; omega) : OwnS 3 31 IsR wo wo.heap.size (Old w) _ _), fun b h => h, fun b h => .inl h⟩
        case round =>
          obtain ⟨m, S2, hm, rfl, hbi, hown2, hS2⟩ := hrel
          have Hbi := Lib.hid hbi
          have HS2 := Lib.hid hS2.out
          have Hown2 := Lib.hid hown2
          have hwwi : Below w.heap.size w wo := zaa HB0.out hbw
          have hwi : Below w.heap.size w wr := hwwi.trans (hbi.mono hwwi.size)
          have cQ0 := zab hbi cP0
          have hsi := hbi.size
          clear hS2 hown2
          rcases Nat.lt_or_ge m M with hlt2 | hge2
          · obtain ⟨row, hr, hrr⟩ := rawM_get (m := q.A) (j := m) (by rw [HG.out.rows, ← HMl.out]; exact hlt2)
            have hrl : row.length = n := Hrow.out row (List.mem_of_getElem? hr)
            obtain ⟨x, hx, hrx⟩ := zfl (l := row) (j := j) (by omega)
            obtain ⟨b2, o2, Y1, Y2, rfl, hSb2, helr, d0⟩ := zdp HA.out hrr
            obtain ⟨b1, o1, X1, X2, X3, X4, rfl, hSb1, helx, c0, c1, c2⟩ := zdi helr hrx
            obtain ⟨x0, hx0⟩ : ∃ s, s = (raw x).neg := ⟨_, rfl⟩
            obtain ⟨x1, hx1⟩ : ∃ s, s = (raw x).num.length := ⟨_, rfl⟩
            obtain ⟨x2, hx2⟩ : ∃ s, s = (raw x).den.length := ⟨_, rfl⟩
            have er : (rawV row).length = n := (zay row).trans hrl
            rw [er] at d0
            rw [← hx0] at c0
            rw [← hx1] at c1
            rw [← hx2] at c2
            rw [← hx0, ← hx1, ← hx2] at helx
            have hSb1' : b1 < w.heap.size := hSb1
            have hSb2' : b2 < w.heap.size := hSb2
            have e0 := zab hwi c0
            have e1 := zab hwi c1
            have e2 := zab hwi c2
            have e3 := zab hwi d0
            have Hel := Lib.hid (IsQ.stb.to (isR_isQ helx) (zbq (S := Old w) hwi fun b h => h))
            have Hr := Lib.hid hr
            have Hx := Lib.hid hx
            obtain ⟨p, hp⟩ : ∃ p, p = -x := ⟨_, rfl⟩
            have Hp := Lib.hid hp
            have Hwi := Lib.hid hwi
            have cr := zcm
            clear hr hx hrr hrx helr helx hx0 hx1 hx2 c0 c1 c2 d0 hp er hrl hwi hwwi hbw hbi
            go_wp2_with fail
            refine (rneg_s (S := Old w) Hel.out (fun b h => Nat.lt_of_lt_of_le h Hwi.out.size) Hp.out).mono ?_
            rintro e w6 ⟨⟨v6, rfl, hv6⟩, hb⟩
            have Hb6 := Lib.hid hb
            have Hv6 := Lib.hid hv6
            have Hbs := Lib.hid (zaa Hbi.out hb)
            have hbase : wo.heap.size ≤ w6.heap.size := Hbs.out.size
            obtain ⟨s6, P6, k6, O6, l6, rfl, _, _, _⟩ := zan hv6
            have hown6 := OwnS.step IsR.stb (T := fun b => S2 b ∨ (wr.heap.size ≤ b ∧ b < w6.heap.size)) Hown2.out Hb6.out (fun b h => .inl h) (fun b h => h)
            have hel6 := IsQ.stb.to Hv6.out (zat (T := fun b => S2 b ∨ (wr.heap.size ≤ b ∧ b < w6.heap.size)) fun b h => .inl (HS2.out.1 b h))
            clear hb hv6 e0 e1 e2 e3
            go_wp2_with (at_builtin; refine wp_appS elR rfl _ _ rfl IsR.stb rfl rfl rfl hown6 hel6 rfl (by intro u hu; simp [Value.cells] at hu; rcases hu with rfl | rfl | rfl <;> rfl) (by have h1 := List.length_take_le m (negV (colQ q.A j)); rw [zay]; omega) hbase ?_; intro v7 w7 hown7 hb7 hz7)
            go_roundw
            case rel =>
              refine ⟨m + 1, fun b => S2 b ∨ (wr.heap.size ≤ b ∧ b < w6.heap.size), by omega, by go_num, Hbs.out.trans hb7, ?_, fun b hb => .inl (HS2.out.1 b hb), fun b hb => by rcases hb with hb | hb; exact HS2.out.2 b hb; exact .inr (Nat.le_trans hsi hb.1)⟩
              rw [colQ_take Hr.out Hx.out, ← Hp.out, rawV, List.map_append]
              exact hown7
            case measure => simp [intOf]; omega
          · obtain rfl : m = M := by omega
            have e : (negV (colQ q.A j)).take m = negV (colQ q.A j) := List.take_of_length_le (by rw [negV_len, colQ_len, HG.out.rows, ← HMl.out]; exact Nat.le_refl _)
            rw [e] at Hown2
            have hvr : IsV wr (fun b => S b ∨ (wo.heap.size ≤ b ∧ b < wr.heap.size)) _ _ := OwnS.isS IsR.stb Hown2.out (fun b hb => by
              obtain ⟨_, _, _, _, h4⟩ := Hown2.out
              rcases HS2.out.2 b hb with h | h
              · exact .inl (HS.out.1 b h)
              · exact .inr ⟨h, (h4 b hb).1⟩) (fun b h1 h2 => .inr ⟨h1, h2⟩)
            have hown3 := OwnS.step IsV.stb (T := fun b => S b ∨ (wo.heap.size ≤ b ∧ b < wr.heap.size)) Hown.out Hbi.out (fun b h => .inl h) (fun b h => h)
            have HRi := Lib.hid (Row.next HRw.out Hbi.out)
            obtain ⟨Pr, kr, hPr, hrlen⟩ := zau hvr
            subst hPr
            obtain ⟨g0, g1, g2⟩ := zad HRi.out
            have hbase : wE.heap.size ≤ wr.heap.size := by omega
            have hgr : g < wo.heap.size := HRw.out.lt
            clear e hwi hwwi hbw hbi
            go_wp2_with (at_builtin; refine wp_appS elV rfl _ _ rfl IsV.stb rfl rfl rfl hown3 hvr rfl (by intro u hu; simp [Value.cells] at hu; subst hu; rfl) (by have h1 := List.length_take_le j (zca q).A; rw [zek]; omega) hbase ?_; intro v7 w7 hown7 hb7 hz7; obtain ⟨A7, c7, hA7⟩ := hown7.slice; rw [List.length_append, List.length_singleton] at hA7; subst hA7; have R7 := Row.below HRi.out hb7 gE; obtain ⟨h0, h1, h2⟩ := zad R7; obtain ⟨f0, f1, f2⟩ := zax R7)
            go_roundw
            case rel =>
              have hS7 : ∀ b, (S b ∨ (wo.heap.size ≤ b ∧ b < wr.heap.size)) → b ≠ g := fun b hb => by rcases hb with hb | hb; exact (HS.out.2 b hb).2; omega
              refine ⟨j + 1, fun b => S b ∨ (wo.heap.size ≤ b ∧ b < wr.heap.size), _, by omega, by go_num, ((Hbw.out.trans (Hbi.out.mono (by omega))).trans (hb7.mono (by omega))).setCell (p := ⟨g, 0, none⟩) zg _, (zee Hgr.out ((Hbi.out.mono hszE).trans hb7)).trans (zcn _ g 0 _), R7.set_ 0 _, ?_, fun b hb => .inl (HS.out.1 b hb), fun b hb => ⟨by rcases hb with hb | hb; exact (HS.out.2 b hb).1; right; omega, hS7 b hb⟩⟩
              refine OwnS.stepG IsV.stb ?_ (zcn _ g 0 _) gE hS7
              rw [zcj (dualA_get (by rw [← Hnl.out]; exact hlt)), rawM_snoc]
              exact hown7
            case measure => simp [intOf]; omega
      · obtain rfl : j = n := by omega
        have e : (zca q).A.take j = (zca q).A := List.take_of_length_le (by unfold zca; simp only; rw [List.length_map, List.length_range, ← Hnl.out]; exact Nat.le_refl _)
        rw [e] at Hown
        have hT : IsM wo (SP w w0 g wo) va (rawM (zca q).A) := OwnS.isS IsV.stb Hown.out (fun b hb => by obtain ⟨_, _, _, _, h4⟩ := Hown.out; exact ⟨(HS.out.2 b hb).1, (h4 b hb).1, (HS.out.2 b hb).2⟩) (fun b h1 h2 => ⟨.inr (by have := HbE.out.size; omega), h2, by omega⟩)
        have VB1 := IsV.stb.to VB.out (same_grown Hgr.out fun b h => h.2)
        have VC1 := IsV.stb.to VC.out (same_grown Hgr.out fun b h => h.2)
        have HT := Lib.hid hT
        have HVB := Lib.hid VB1
        have HVC := Lib.hid VC1
        obtain ⟨Pm, km, hPm, _⟩ := zdo hT
        subst hPm
        have RZr := Lib.hid (RZ.out.next hbw)
        obtain ⟨g0, g1, g2⟩ := zad HRw.out
        obtain ⟨z0, z1, z2⟩ := zad RZr.out
        obtain ⟨y0, y1, y2⟩ := zax RZr.out
        clear hT VB1 VC1 e hbw
        go_wp2_with fail
        refine ret_prog Tryz.results68 rfl rfl (Row.put3 RZr.out _ _ _) ?_
        refine ⟨⟨_, rfl, ?_⟩, zbn (zaa HB0.out Hbw.out) (by omega) _ _ _⟩
        have hold : ∀ b, (fun b => b < wo.heap.size) b → Old (put3 wo (w.heap.size + 1) (.slice Pm (rawM (zca q).A).length km) (.slice P3 (rawV (negV q.C)).length k3) (.slice P4 (rawV (negV q.B)).length k4)) b := fun b h => by show b < _; rw [zcb]; exact h
        exact isP_mk (p := rawP (zca q)) (IsM.stb.to (IsM.stb.to HT.out (zbw (T := fun b => b < wo.heap.size) fun b h => ⟨by have := h.1; omega, h.2.1⟩)) (zat hold)) (IsV.stb.to (IsV.stb.to (IsV.stb.to HVB.out (zat (T := SP w w0 g wo) fun b h => ⟨h.1, Nat.lt_of_lt_of_le h.2.1 Hgr.out.size, h.2.2⟩)) (zbw (T := fun b => b < wo.heap.size) fun b h => ⟨by have := h.1; omega, h.2.1⟩)) (zat hold)) (IsV.stb.to (IsV.stb.to (IsV.stb.to HVC.out (zat (T := SP w w0 g wo) fun b h => ⟨h.1, Nat.lt_of_lt_of_le h.2.1 Hgr.out.size, h.2.2⟩)) (zbw (T := fun b => b < wo.heap.size) fun b h => ⟨by have := h.1; omega, h.2.1⟩)) (zat hold))
def zcv (p : Prog) (s : Sol) : Bool := zav s.D p.B.length && decide (s.X.length = 0) && decide (s.R.length = 0) && zco s.val
set_option maxRecDepth 100000 in
set_option maxHeartbeats 2000000 in
theorem infProper_l {w : World} {v : Value} {p : Prog} {s : Sol} (h : IsPS w (Old w) v p s) (hB : Bru w) : Calls Tryz.prog 204 #[v] w fun e w' => e = .returned (.bool (zcv p s)) ∧ Below w.heap.size w w' := by
  obtain ⟨A, cA, B, cB, C, cC, P, cP, Q, cQ, X, cX, D, cD, R, cR, rfl, hA, hBv, hC, hV, hX, hD, hR⟩ := h
  have HA := Lib.hid hA
  have HBv := Lib.hid hBv
  have HC := Lib.hid hC
  have HV := Lib.hid hV
  have HX := Lib.hid hX
  have HD := Lib.hid hD
  have HR := Lib.hid hR
  have HB := Lib.hid hB
  have mB := zbg hBv
  have mC := zbg hC
  have mX := zbg hX
  have mD := zbg hD
  have mR := zbg hR
  clear hA hBv hC hV hX hD hR hB
  unfold zcv
  obtain ⟨b1, hb1⟩ : ∃ b, b = zav s.D p.B.length := ⟨_, rfl⟩
  obtain ⟨b2, hb2⟩ : ∃ b, b = decide (s.X.length = 0) := ⟨_, rfl⟩
  obtain ⟨b3, hb3⟩ : ∃ b, b = decide (s.R.length = 0) := ⟨_, rfl⟩
  obtain ⟨b4, hb4⟩ : ∃ b, b = zco s.val := ⟨_, rfl⟩
  have p2 : ((s.X.length : Int) == 0) = b2 := len_eq0.trans hb2.symm
  have p3 : ((s.R.length : Int) == 0) = b3 := len_eq0.trans hb3.symm
  rw [← hb1, ← hb2, ← hb3, ← hb4]
  have Hb1 := Lib.hid hb1
  have Hb4 := Lib.hid hb4
  clear hb1 hb2 hb3 hb4
  obtain ⟨w0, hw0, hb0, rA, Hz⟩ := zbm w #[.slice A p.A.length cA, .slice B p.B.length cB, .slice C p.C.length cC, .int .i64 s.st, .bool s.val.neg, .slice P s.val.num.length cP, .slice Q s.val.den.length cQ, .slice X s.X.length cX, .slice D s.D.length cD, .slice R s.R.length cR] 87
  have HB0 := Lib.hid hb0
  have RA := Lib.hid rA
  have c0 := (rA.cell 0 : w0.cell? ⟨w.heap.size, 0, none⟩ = some _)
  have c1 := (rA.cell 1 : w0.cell? ⟨w.heap.size, 1, none⟩ = some _)
  have c2 := (rA.cell 2 : w0.cell? ⟨w.heap.size, 2, none⟩ = some _)
  have c3 := (rA.cell 3 : w0.cell? ⟨w.heap.size, 3, none⟩ = some _)
  have c4 := (rA.cell 4 : w0.cell? ⟨w.heap.size, 4, none⟩ = some _)
  have c5 := (rA.cell 5 : w0.cell? ⟨w.heap.size, 5, none⟩ = some _)
  have c6 := (rA.cell 6 : w0.cell? ⟨w.heap.size, 6, none⟩ = some _)
  have c7 := (rA.cell 7 : w0.cell? ⟨w.heap.size, 7, none⟩ = some _)
  have c8 := (rA.cell 8 : w0.cell? ⟨w.heap.size, 8, none⟩ = some _)
  have c9 := (rA.cell 9 : w0.cell? ⟨w.heap.size, 9, none⟩ = some _)
  clear hb0 rA
  cases b1 with
  | false =>
    go_enter Tryz.func204, Tryz.ntmps204
    go_wp2_with fail
    clear hw0
    refine (zbx (IsV.stb.to HD.out (zag HB0.out)) (Bru.next HB.out HB0.out) mB).mono ?_
    rw [show zav s.D p.B.length = false from Hb1.out.symm]
    rintro e w1 ⟨rfl, hb⟩
    have HB1 := Lib.hid (zaa HB0.out hb)
    replace c0 := zab hb c0
    replace c1 := zab hb c1
    replace c2 := zab hb c2
    replace c3 := zab hb c3
    replace c4 := zab hb c4
    replace c5 := zab hb c5
    replace c6 := zab hb c6
    replace c7 := zab hb c7
    replace c8 := zab hb c8
    replace c9 := zab hb c9
    clear hb
    go_wp2_with fail
    go_ret
    exact ⟨rfl, HB1.out⟩
  | true =>
    cases b2 with
    | false =>
      go_enter Tryz.func204, Tryz.ntmps204
      go_wp2_with fail
      clear hw0
      refine (zbx (IsV.stb.to HD.out (zag HB0.out)) (Bru.next HB.out HB0.out) mB).mono ?_
      rw [show zav s.D p.B.length = true from Hb1.out.symm]
      rintro e w1 ⟨rfl, hb⟩
      have HB1 := Lib.hid (zaa HB0.out hb)
      replace c0 := zab hb c0
      replace c1 := zab hb c1
      replace c2 := zab hb c2
      replace c3 := zab hb c3
      replace c4 := zab hb c4
      replace c5 := zab hb c5
      replace c6 := zab hb c6
      replace c7 := zab hb c7
      replace c8 := zab hb c8
      replace c9 := zab hb c9
      clear hb
      go_wp2_with fail
      go_ret
      exact ⟨rfl, HB1.out⟩
    | true =>
      cases b3 with
      | false =>
        go_enter Tryz.func204, Tryz.ntmps204
        go_wp2_with fail
        clear hw0
        refine (zbx (IsV.stb.to HD.out (zag HB0.out)) (Bru.next HB.out HB0.out) mB).mono ?_
        rw [show zav s.D p.B.length = true from Hb1.out.symm]
        rintro e w1 ⟨rfl, hb⟩
        have HB1 := Lib.hid (zaa HB0.out hb)
        replace c0 := zab hb c0
        replace c1 := zab hb c1
        replace c2 := zab hb c2
        replace c3 := zab hb c3
        replace c4 := zab hb c4
        replace c5 := zab hb c5
        replace c6 := zab hb c6
        replace c7 := zab hb c7
        replace c8 := zab hb c8
        replace c9 := zab hb c9
        clear hb
        go_wp2_with fail
        go_ret
        exact ⟨rfl, HB1.out⟩
      | true =>
        cases b4 with
        | false =>
          go_enter Tryz.func204, Tryz.ntmps204
          go_wp2_with fail
          clear hw0
          refine (zbx (IsV.stb.to HD.out (zag HB0.out)) (Bru.next HB.out HB0.out) mB).mono ?_
          rw [show zav s.D p.B.length = true from Hb1.out.symm]
          rintro e w1 ⟨rfl, hb⟩
          have HB1 := Lib.hid (zaa HB0.out hb)
          replace c0 := zab hb c0
          replace c1 := zab hb c1
          replace c2 := zab hb c2
          replace c3 := zab hb c3
          replace c4 := zab hb c4
          replace c5 := zab hb c5
          replace c6 := zab hb c6
          replace c7 := zab hb c7
          replace c8 := zab hb c8
          replace c9 := zab hb c9
          clear hb
          go_wp2_with fail
          refine (nothing_l (IsR.stb.to HV.out (zag HB1.out)) (Bru.next HB.out HB1.out)).mono ?_
          rw [show zco s.val = false from Hb4.out.symm]
          rintro e w2 ⟨rfl, hb⟩
          have HB2 := Lib.hid (zaa HB1.out hb)
          replace c0 := zab hb c0
          replace c1 := zab hb c1
          replace c2 := zab hb c2
          replace c3 := zab hb c3
          replace c4 := zab hb c4
          replace c5 := zab hb c5
          replace c6 := zab hb c6
          replace c7 := zab hb c7
          replace c8 := zab hb c8
          replace c9 := zab hb c9
          clear hb
          go_wp2_with fail
          go_ret
          exact ⟨rfl, HB2.out⟩
        | true =>
          go_enter Tryz.func204, Tryz.ntmps204
          go_wp2_with fail
          clear hw0
          refine (zbx (IsV.stb.to HD.out (zag HB0.out)) (Bru.next HB.out HB0.out) mB).mono ?_
          rw [show zav s.D p.B.length = true from Hb1.out.symm]
          rintro e w1 ⟨rfl, hb⟩
          have HB1 := Lib.hid (zaa HB0.out hb)
          replace c0 := zab hb c0
          replace c1 := zab hb c1
          replace c2 := zab hb c2
          replace c3 := zab hb c3
          replace c4 := zab hb c4
          replace c5 := zab hb c5
          replace c6 := zab hb c6
          replace c7 := zab hb c7
          replace c8 := zab hb c8
          replace c9 := zab hb c9
          clear hb
          go_wp2_with fail
          refine (nothing_l (IsR.stb.to HV.out (zag HB1.out)) (Bru.next HB.out HB1.out)).mono ?_
          rw [show zco s.val = true from Hb4.out.symm]
          rintro e w2 ⟨rfl, hb⟩
          have HB2 := Lib.hid (zaa HB1.out hb)
          replace c0 := zab hb c0
          replace c1 := zab hb c1
          replace c2 := zab hb c2
          replace c3 := zab hb c3
          replace c4 := zab hb c4
          replace c5 := zab hb c5
          replace c6 := zab hb c6
          replace c7 := zab hb c7
          replace c8 := zab hb c8
          replace c9 := zab hb c9
          clear hb
          go_wp2_with fail
          go_ret
          exact ⟨rfl, HB2.out⟩
structure InfQ (p : Prog) (s : Sol) (q : ProgQ) (y : List Rat) : Prop where
  prog : p = rawP q
  good : Good q 1024
  D : s.D = rawV y
  ly : y.length = q.B.length
  sy : ∀ e ∈ y, Sz e 1024
theorem infProper_q {p : Prog} {s : Sol} {q : ProgQ} (hp : p = rawP q) (hg : Good q 1024) (h : zcv p s = true) : ∃ y, InfQ p s q y := by
  unfold zcv at h
  rw [Bool.and_eq_true, Bool.and_eq_true, Bool.and_eq_true] at h
  obtain ⟨_, y, hy, ly, sy⟩ := zen h.1.1.1
  exact ⟨y, hp, hg, hy, by rw [ly, hp]; exact zay _, sy⟩
def zbj (n : Nat) : List Rat := List.replicate n 0
def zed (q : ProgQ) (y : List Rat) : Bool := sufB q.A (zbj q.C.length) y
def infContra (q : ProgQ) (y : List Rat) : Bool := decide ((dotQ q.B y).num < 0)
theorem zbk (n : Nat) : (zbj n).length = n := List.length_replicate
theorem zerosQ_get {n k : Nat} (h : k < n) : (zbj n).getD k 0 = 0 := by
  rw [List.getD_eq_getElem?_getD, zbj, List.getElem?_replicate, if_pos h]; rfl
theorem ratNeg (b : Bool) (x y : Value) (w : World) : (Instr.field 31 (.agg #[.bool b, x, y]) 0).run Tryz.prog w = .ok (.bool b) w := by kernel_rfl
theorem num_neg {q : Rat} : decide (q.num < 0) = !decide (0 ≤ q) := by
  rw [Bool.eq_iff_iff, Bool.not_eq_true', decide_eq_true_eq, decide_eq_false_iff_not, ← Rat.num_nonneg]
  omega
set_option maxRecDepth 100000 in
set_option maxHeartbeats 2000000 in
theorem infContra_l {w : World} {v : Value} {p : Prog} {s : Sol} {q : ProgQ} {y : List Rat} (h : IsPS w (Old w) v p s) (hB : Bru w) (hq : InfQ p s q y) : Calls Tryz.prog 202 #[v] w fun e w' => e = .returned (.bool (infContra q y)) ∧ Below w.heap.size w w' := by
  obtain ⟨A, cA, B, cB, C, cC, P, cP, Q, cQ, X, cX, D, cD, R, cR, rfl, hA, hBv, hC, hV, hX, hD, hR⟩ := h
  have HA := Lib.hid hA
  have HBv := Lib.hid hBv
  have HC := Lib.hid hC
  have HV := Lib.hid hV
  have HX := Lib.hid hX
  have HD := Lib.hid hD
  have HR := Lib.hid hR
  have HB := Lib.hid hB
  have mB := zbg hBv
  have mC := zbg hC
  have mX := zbg hX
  have mD := zbg hD
  have mR := zbg hR
  clear hA hBv hC hV hX hD hR hB
  have HQ := Lib.hid hq
  have HA2 : Hid (∀ W : World, Below w.heap.size w W → IsM W (Old W) (.slice A p.A.length cA) (rawM q.A)) := fun W hW => by have e : p.A = rawM q.A := (by rw [HQ.out.prog]; rfl); rw [← e]; exact IsM.stb.to HA.out (zag hW)
  have HB2 : Hid (∀ W : World, Below w.heap.size w W → IsV W (Old W) (.slice B p.B.length cB) (rawV q.B)) := fun W hW => by have e : p.B = rawV q.B := (by rw [HQ.out.prog]; rfl); rw [← e]; exact IsV.stb.to HBv.out (zag hW)
  have HD2 : Hid (∀ W : World, Below w.heap.size w W → IsV W (Old W) (.slice D s.D.length cD) (rawV y)) := fun W hW => by rw [← HQ.out.D]; exact IsV.stb.to HD.out (zag hW)
  unfold infContra
  clear hq
  obtain ⟨w0, hw0, hb0, rA, Hz⟩ := zbm w #[.slice A p.A.length cA, .slice B p.B.length cB, .slice C p.C.length cC, .int .i64 s.st, .bool s.val.neg, .slice P s.val.num.length cP, .slice Q s.val.den.length cQ, .slice X s.X.length cX, .slice D s.D.length cD, .slice R s.R.length cR] 87
  have HB0 := Lib.hid hb0
  have RA := Lib.hid rA
  have c0 := (rA.cell 0 : w0.cell? ⟨w.heap.size, 0, none⟩ = some _)
  have c1 := (rA.cell 1 : w0.cell? ⟨w.heap.size, 1, none⟩ = some _)
  have c2 := (rA.cell 2 : w0.cell? ⟨w.heap.size, 2, none⟩ = some _)
  have c3 := (rA.cell 3 : w0.cell? ⟨w.heap.size, 3, none⟩ = some _)
  have c4 := (rA.cell 4 : w0.cell? ⟨w.heap.size, 4, none⟩ = some _)
  have c5 := (rA.cell 5 : w0.cell? ⟨w.heap.size, 5, none⟩ = some _)
  have c6 := (rA.cell 6 : w0.cell? ⟨w.heap.size, 6, none⟩ = some _)
  have c7 := (rA.cell 7 : w0.cell? ⟨w.heap.size, 7, none⟩ = some _)
  have c8 := (rA.cell 8 : w0.cell? ⟨w.heap.size, 8, none⟩ = some _)
  have c9 := (rA.cell 9 : w0.cell? ⟨w.heap.size, 9, none⟩ = some _)
  clear rA
  clear hb0
  go_enter Tryz.func202, Tryz.ntmps202
  go_wp2_with fail
  clear hw0
  refine (dot_q (M := q.B.length) (HB2.out _ HB0.out) (HD2.out _ HB0.out) (Bru.next HB.out HB0.out) rfl HQ.out.ly HQ.out.good.nB HQ.out.good.szB HQ.out.sy).mono ?_
  rintro e w1 ⟨⟨v1, rfl, hv⟩, hb⟩
  obtain ⟨s1, P1, k1, O1, l1, rfl, Hn1, _, _⟩ := zan hv
  have Hb1 := Lib.hid (zaa HB0.out hb)
  clear hb hv
  have hfd := ratNeg
  go_wp2_with fail
  go_ret
  exact ⟨by show Ending.returned (.bool _) = _; rw [Hn1.out], Hb1.out⟩
set_option maxRecDepth 100000 in
set_option maxHeartbeats 4000000 in
theorem infPositive_l {w : World} {v : Value} {p : Prog} {s : Sol} {q : ProgQ} {y : List Rat} (h : IsPS w (Old w) v p s) (hB : Bru w) (hq : InfQ p s q y) : Calls Tryz.prog 205 #[v] w fun e w' => e = .returned (.bool (zed q y)) ∧ Below w.heap.size w w' := by
  obtain ⟨A, cA, B, cB, C, cC, P, cP, Q, cQ, X, cX, D, cD, R, cR, rfl, hA, hBv, hC, hV, hX, hD, hR⟩ := h
  have HA := Lib.hid hA
  have HBv := Lib.hid hBv
  have HC := Lib.hid hC
  have HV := Lib.hid hV
  have HX := Lib.hid hX
  have HD := Lib.hid hD
  have HR := Lib.hid hR
  have HB := Lib.hid hB
  have mB := zbg hBv
  have mC := zbg hC
  have mX := zbg hX
  have mD := zbg hD
  have mR := zbg hR
  clear hA hBv hC hV hX hD hR hB
  have HQ := Lib.hid hq
  have HA2 : Hid (∀ W : World, Below w.heap.size w W → IsM W (Old W) (.slice A p.A.length cA) (rawM q.A)) := fun W hW => by have e : p.A = rawM q.A := (by rw [HQ.out.prog]; rfl); rw [← e]; exact IsM.stb.to HA.out (zag hW)
  have HB2 : Hid (∀ W : World, Below w.heap.size w W → IsV W (Old W) (.slice B p.B.length cB) (rawV q.B)) := fun W hW => by have e : p.B = rawV q.B := (by rw [HQ.out.prog]; rfl); rw [← e]; exact IsV.stb.to HBv.out (zag hW)
  have HD2 : Hid (∀ W : World, Below w.heap.size w W → IsV W (Old W) (.slice D s.D.length cD) (rawV y)) := fun W hW => by rw [← HQ.out.D]; exact IsV.stb.to HD.out (zag hW)
  have hCn : p.C.length = q.C.length := by rw [hq.prog]; exact zay _
  have hn40 : q.C.length ≤ 40 := hq.good.nC
  have hM40 : q.B.length ≤ 40 := hq.good.nB
  unfold zed
  clear hq
  obtain ⟨w0, hw0, hb0, rA, Hz⟩ := zbm w #[.slice A p.A.length cA, .slice B p.B.length cB, .slice C p.C.length cC, .int .i64 s.st, .bool s.val.neg, .slice P s.val.num.length cP, .slice Q s.val.den.length cQ, .slice X s.X.length cX, .slice D s.D.length cD, .slice R s.R.length cR] 87
  have HB0 := Lib.hid hb0
  have RA := Lib.hid rA
  have c0 := (rA.cell 0 : w0.cell? ⟨w.heap.size, 0, none⟩ = some _)
  have c1 := (rA.cell 1 : w0.cell? ⟨w.heap.size, 1, none⟩ = some _)
  have c2 := (rA.cell 2 : w0.cell? ⟨w.heap.size, 2, none⟩ = some _)
  have c3 := (rA.cell 3 : w0.cell? ⟨w.heap.size, 3, none⟩ = some _)
  have c4 := (rA.cell 4 : w0.cell? ⟨w.heap.size, 4, none⟩ = some _)
  have c5 := (rA.cell 5 : w0.cell? ⟨w.heap.size, 5, none⟩ = some _)
  have c6 := (rA.cell 6 : w0.cell? ⟨w.heap.size, 6, none⟩ = some _)
  have c7 := (rA.cell 7 : w0.cell? ⟨w.heap.size, 7, none⟩ = some _)
  have c8 := (rA.cell 8 : w0.cell? ⟨w.heap.size, 8, none⟩ = some _)
  have c9 := (rA.cell 9 : w0.cell? ⟨w.heap.size, 9, none⟩ = some _)
  clear rA
  clear hb0
  obtain ⟨n, hn⟩ : ∃ n, n = p.C.length := ⟨_, rfl⟩
  have Hn := Lib.hid (hn.trans hCn)
  rw [← hn] at c2 mC
  rw [← hCn, ← hn] at hn40
  clear hn hCn
  go_enter Tryz.func205, Tryz.ntmps205
  go_wp2_with fail
  clear hw0 c0 c1 c2 c3 c4 c5 c6 c7 c8 c9
  go_loopw [9, 3] (fun i kk wr => ∃ k : Nat, k ≤ n ∧ i = .int .i64 (k : Int) ∧ Below w0.heap.size w0 wr ∧ Hid (∀ j, j < k → 0 ≤ dotQ (colQ q.A j) y)) (fun i _ _ => n - (intOf i).toNat)
  case atStart => exact ⟨0, Nat.zero_le _, rfl, Below.refl _ _, fun i hi => by omega⟩
  case round =>
    obtain ⟨k, hk, rfl, hbw, hrel⟩ := hrel
    have Hbw := Lib.hid hbw
    have HW := Lib.hid (zaa HB0.out hbw)
    have Hrel := Lib.hid hrel.out
    have c0 : wr.cell? ⟨w.heap.size, 0, none⟩ = some _ := (RA.out.next hbw).cell 0
    have c8 : wr.cell? ⟨w.heap.size, 8, none⟩ = some _ := (RA.out.next hbw).cell 8
    clear hrel
    rcases Nat.lt_or_ge k n with hlt | hge
    · obtain ⟨d, hd⟩ : ∃ d, d = dotQ (colQ q.A k) y := ⟨_, rfl⟩
      have Hd := Lib.hid hd
      have Hlt := Lib.hid hlt
      obtain ⟨g, hg⟩ : ∃ g, g = decide (d.num < 0) := ⟨_, rfl⟩
      have Hg := Lib.hid hg
      clear hd hg hbw hlt
      have hfd := ratNeg
      go_wp2_with fail
      have HS : Hid (∀ W : World, Below wr.heap.size wr W → W.cell? ⟨w.heap.size, 0, none⟩ = some (.slice A p.A.length cA) ∧ W.cell? ⟨w.heap.size, 8, none⟩ = some (.slice D s.D.length cD)) := fun W hW => ⟨zab hW c0, zab hW c8⟩
      have D4 : Hid (∀ W : World, Below wr.heap.size wr W → Calls Tryz.prog 66 #[.slice A p.A.length cA, .int .i64 (k : Int)] W (fun e w' => (∃ v', e = .returned v' ∧ IsV w' (Old w') v' (rawV (colQ q.A k))) ∧ Below W.heap.size W w')) := fun W hW => column_l (n := n) (HA2.out _ (zaa HW.out (show Below wr.heap.size wr W from (by (repeat (first | exact Below.refl _ _ | assumption | refine zae ?_ _ | refine zah ?_ | refine zaf ?_ ?_ _ _ _ | refine zaj ?_ (by omega) | refine zaa ?_ (by assumption))); (first | done | fail))))) (by rw [HQ.out.good.rows]; omega) (fun row h => (HQ.out.good.cols row h).trans Hn.out.symm) Hlt.out (by omega)
      go_region_held3 (fun w' => w'.cell? ⟨w.heap.size, 0, none⟩ = some (.slice A p.A.length cA) ∧ w'.cell? ⟨w.heap.size, 8, none⟩ = some (.slice D s.D.length cD))
        (exact HS.out _ (by (repeat (first | exact Below.refl _ _ | assumption | refine zae ?_ _ | refine zah ?_ | refine zaf ?_ ?_ _ _ _ | refine zaj ?_ (by omega) | refine zaa ?_ (by assumption))); (first | done | fail)))
        (first
          | (go_at_call 66; (with_reducible refine Calls.mono (D4.out _ (by (repeat (first | exact Below.refl _ _ | assumption | refine zae ?_ _ | refine zah ?_ | refine zaf ?_ ?_ _ _ _ | refine zaj ?_ (by omega) | refine zaa ?_ (by assumption))); (first | done | fail))) ?_); rintro e w4 ⟨⟨v4, rfl, hv4⟩, hb4⟩; have V4 := Lib.hid hv4; obtain ⟨P4, k4, rfl, _⟩ := zau hv4; have D5 : Hid (∀ W : World, Below w4.heap.size w4 W → Calls Tryz.prog 58 #[.slice P4 (rawV (colQ q.A k)).length k4, .slice D s.D.length cD] W (RetQ W d)) := fun W hW => by rw [Hd.out]; exact dot_q (M := q.B.length) (IsV.stb.next V4.out hW) (HD2.out _ (zaa HW.out (show Below wr.heap.size wr W from (by (repeat (first | exact Below.refl _ _ | assumption | refine zae ?_ _ | refine zah ?_ | refine zaf ?_ ?_ _ _ _ | refine zaj ?_ (by omega) | refine zaa ?_ (by assumption))); (first | done | fail))))) (Bru.next HB.out (zaa HW.out (show Below wr.heap.size wr W from (by (repeat (first | exact Below.refl _ _ | assumption | refine zae ?_ _ | refine zah ?_ | refine zaf ?_ ?_ _ _ _ | refine zaj ?_ (by omega) | refine zaa ?_ (by assumption))); (first | done | fail))))) (by rw [colQ_len, HQ.out.good.rows]) HQ.out.ly hM40 (colQ_sz HQ.out.good.szA (by omega)) HQ.out.sy)
          | (go_at_call 58; (with_reducible refine Calls.mono (D5.out _ (by (repeat (first | exact Below.refl _ _ | assumption | refine zae ?_ _ | refine zah ?_ | refine zaf ?_ ?_ _ _ _ | refine zaj ?_ (by omega) | refine zaa ?_ (by assumption))); (first | done | fail))) ?_); rintro e w5 ⟨⟨v5, rfl, hv5⟩, hb5⟩; obtain ⟨s5, P5, k5, O5, l5, rfl, Hn5, _, _⟩ := zan hv5))
      have hB5 : Below wr.heap.size wr w5 := (by (repeat (first | exact Below.refl _ _ | assumption | refine zae ?_ _ | refine zah ?_ | refine zaf ?_ ?_ _ _ _ | refine zaj ?_ (by omega) | refine zaa ?_ (by assumption))); (first | done | fail))
      have Hbw5 := Lib.hid (zaa Hbw.out hB5)
      have e5 := Hn5.out.trans Hg.out.symm
      subst e5
      clear HS D4 D5 hv4 hv5 V4 hb4 hb5 hB5 Hn5 c0 c8
      cases s5 with
      | true =>
        have Hr : Hid (sufB q.A (zbj q.C.length) y = false) := by
          have hneg : ¬ 0 ≤ d := by
            have h := Hg.out.symm
            rw [num_neg] at h
            simpa using h
          rw [Hid, sufB, zbk, all_range_not (k := k) (by rw [← Hn.out]; exact Hlt.out) (by rw [zerosQ_get (by rw [← Hn.out]; exact Hlt.out), ← Hd.out]; exact decide_eq_false hneg)]
          rfl
        go_wp2_with fail
        go_ret
        exact ⟨by show Ending.returned (.bool _) = _; rw [Hr.out], zaa HB0.out Hbw5.out⟩
      | false =>
        go_wp2_with fail
        go_roundw
        case rel =>
          refine ⟨k + 1, by have := Hlt.out; omega, by go_num, Hbw5.out, fun i hi => ?_⟩
          rcases Nat.lt_or_ge i k with h | h
          · exact Hrel.out i h
          · obtain rfl : i = k := by omega
            have h := Hg.out.symm
            rw [num_neg] at h
            rw [← Hd.out]
            simpa using h
        case measure => have := Hlt.out; simp [intOf]; omega
    · obtain rfl : k = n := by omega
      have Hr : Hid (sufB q.A (zbj q.C.length) y = !zda (rawV y)) := by
        rw [Hid, sufB, zbk, all_range_of (fun i hi => by rw [zerosQ_get hi]; exact decide_eq_true (Hrel.out i (by rw [Hn.out]; exact hi))), Bool.true_and]
      clear hbw c0
      go_wp2_with fail
      refine (negative_l (HD2.out _ HW.out)).mono ?_
      rintro e w6 ⟨rfl, hb⟩
      go_wp2_with fail
      go_ret
      exact ⟨by show Ending.returned (.bool _) = _; rw [Hr.out], zaa HW.out hb⟩
set_option maxRecDepth 100000 in
set_option maxHeartbeats 4000000 in
theorem infProves_l {w : World} {v : Value} {p : Prog} {s : Sol} {b2 b3 : Bool} (h : IsPS w (Old w) v p s) (hB : Bru w) (h2 : zcv p s = true → ∃ q y, InfQ p s q y ∧ b2 = zed q y ∧ b3 = infContra q y) :
    Calls Tryz.prog 203 #[v] w fun e w' => e = .returned (.bool (zcv p s && b2 && b3)) ∧ Below w.heap.size w w' := by
  have H := Lib.hid h
  have HB := Lib.hid hB
  have H2 := Lib.hid h2
  obtain ⟨A, cA, B, cB, C, cC, P, cP, Q, cQ, X, cX, D, cD, R, cR, rfl, _⟩ := h
  clear hB h2
  have C1 : Hid (∀ W0, Below w.heap.size w W0 → Chk W0 204 (.agg #[.slice A p.A.length cA, .slice B p.B.length cB, .slice C p.C.length cC, .int .i64 s.st, .bool s.val.neg, .slice P s.val.num.length cP, .slice Q s.val.den.length cQ, .slice X s.X.length cX, .slice D s.D.length cD, .slice R s.R.length cR]) (zcv p s)) := fun W0 h0 W hW => infProper_l (IsPS.to H.out (zag (zaa h0 hW))) (Bru.next HB.out (zaa h0 hW))
  have C2 : Hid (zcv p s = true → ∀ W0, Below w.heap.size w W0 → Chk W0 205 (.agg #[.slice A p.A.length cA, .slice B p.B.length cB, .slice C p.C.length cC, .int .i64 s.st, .bool s.val.neg, .slice P s.val.num.length cP, .slice Q s.val.den.length cQ, .slice X s.X.length cX, .slice D s.D.length cD, .slice R s.R.length cR]) b2) := fun hp W0 h0 W hW => by
    obtain ⟨q, y, hq, e2, _⟩ := H2.out hp
    rw [e2]
    exact infPositive_l (IsPS.to H.out (zag (zaa h0 hW))) (Bru.next HB.out (zaa h0 hW)) hq
  have C3 : Hid (zcv p s = true → ∀ W0, Below w.heap.size w W0 → Chk W0 202 (.agg #[.slice A p.A.length cA, .slice B p.B.length cB, .slice C p.C.length cC, .int .i64 s.st, .bool s.val.neg, .slice P s.val.num.length cP, .slice Q s.val.den.length cQ, .slice X s.X.length cX, .slice D s.D.length cD, .slice R s.R.length cR]) b3) := fun hp W0 h0 W hW => by
    obtain ⟨q, y, hq, _, e3⟩ := H2.out hp
    rw [e3]
    exact infContra_l (IsPS.to H.out (zag (zaa h0 hW))) (Bru.next HB.out (zaa h0 hW)) hq
  obtain ⟨w0, hw0, hb0, rA, Hz⟩ := zbm w #[.slice A p.A.length cA, .slice B p.B.length cB, .slice C p.C.length cC, .int .i64 s.st, .bool s.val.neg, .slice P s.val.num.length cP, .slice Q s.val.den.length cQ, .slice X s.X.length cX, .slice D s.D.length cD, .slice R s.R.length cR] 87
  have c0 := (rA.cell 0 : w0.cell? ⟨w.heap.size, 0, none⟩ = some _)
  have c1 := (rA.cell 1 : w0.cell? ⟨w.heap.size, 1, none⟩ = some _)
  have c2 := (rA.cell 2 : w0.cell? ⟨w.heap.size, 2, none⟩ = some _)
  have c3 := (rA.cell 3 : w0.cell? ⟨w.heap.size, 3, none⟩ = some _)
  have c4 := (rA.cell 4 : w0.cell? ⟨w.heap.size, 4, none⟩ = some _)
  have c5 := (rA.cell 5 : w0.cell? ⟨w.heap.size, 5, none⟩ = some _)
  have c6 := (rA.cell 6 : w0.cell? ⟨w.heap.size, 6, none⟩ = some _)
  have c7 := (rA.cell 7 : w0.cell? ⟨w.heap.size, 7, none⟩ = some _)
  have c8 := (rA.cell 8 : w0.cell? ⟨w.heap.size, 8, none⟩ = some _)
  have c9 := (rA.cell 9 : w0.cell? ⟨w.heap.size, 9, none⟩ = some _)
  obtain ⟨w1, hw1, hb1, rF, Hz1⟩ := zbm w0 #[.func (.func 204) #[.agg #[.slice A p.A.length cA, .slice B p.B.length cB, .slice C p.C.length cC, .int .i64 s.st, .bool s.val.neg, .slice P s.val.num.length cP, .slice Q s.val.den.length cQ, .slice X s.X.length cX, .slice D s.D.length cD, .slice R s.R.length cR]] #[], .func (.func 205) #[.agg #[.slice A p.A.length cA, .slice B p.B.length cB, .slice C p.C.length cC, .int .i64 s.st, .bool s.val.neg, .slice P s.val.num.length cP, .slice Q s.val.den.length cQ, .slice X s.X.length cX, .slice D s.D.length cD, .slice R s.R.length cR]] #[], .func (.func 202) #[.agg #[.slice A p.A.length cA, .slice B p.B.length cB, .slice C p.C.length cC, .int .i64 s.st, .bool s.val.neg, .slice P s.val.num.length cP, .slice Q s.val.den.length cQ, .slice X s.X.length cX, .slice D s.D.length cD, .slice R s.R.length cR]] #[]] 199
  have HB1 := Lib.hid (zaa hb0 hb1)
  have RF := Lib.hid rF
  clear hb0 rA hb1 rF
  go_enter Tryz.func203, Tryz.ntmps203
  go_wp2_with fail
  refine (all_l (b2 := b2) (b3 := b3) RF.out (fun _ => by kernel_rfl) (fun _ => by kernel_rfl) (fun _ => by kernel_rfl) (C1.out _ HB1.out) (fun hp => C2.out hp _ HB1.out) (fun hp _ => C3.out hp _ HB1.out)).mono ?_
  rintro e w2 ⟨rfl, hb⟩
  clear hw0 hw1
  go_wp2_with fail
  go_ret
  exact ⟨rfl, zaa HB1.out hb⟩
end Go.Proofs.YtblpaocignlpkaaGreatDoor
