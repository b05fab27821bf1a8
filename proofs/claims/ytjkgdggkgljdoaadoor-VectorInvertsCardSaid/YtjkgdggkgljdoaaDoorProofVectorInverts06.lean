/-
  What the reduced form of a drawn matrix is: its pivots, its kernel basis, its rows; how long its numbers get. No program in sight.
-/
import Derived.Test.YtjkgdggkgljdoaaDoorVinv10
import Derived.Test.YtjkgdggkgljdoaaDoorVinv07
import Derived.Test.YtjkgdggkgljdoaaDoorProofVectorInverts01
import Derived.Test.YtjkgdggkgljdoaaDoorProofVectorInverts02
import Derived.Test.YtjkgdggkgljdoaaDoorProofVectorInverts05
import Derived.Test.YtjkgdggkgljdoaaDoorVinv16
import Derived.Test.YtjkgdggkgljdoaaDoorVinv17
import Derived.Test.YtjkgdggkgljdoaaDoorVinv18
namespace Go.Proofs.YtjkgdggkgljdoaaDoor
open Go.RowKit
set_option linter.unusedVariables false
theorem atQ_in {A : Nat → Nat → Int} {np d i j : Nat} (h : i < np) : atQ A np d i j = mkRat (A i j) d := if_pos h
theorem atQ_out {A : Nat → Nat → Int} {np d i j : Nat} (h : ¬ i < np) : atQ A np d i j = 0 := if_neg h
theorem rowQ_at {A : Nat → Nat → Int} {np d i k0 cnt j : Nat} (h : j < cnt) : (rowQ A np d i k0 cnt).getD j 0 = atQ A np d i (k0 + j) := by
  unfold rowQ
  rw [List.getD_eq_getElem?_getD, List.getElem?_map, List.getElem?_range h]
  rfl
section
variable {n m : Nat} {A0 : Nat → Nat → Int} {s : RS} {Ms : Nat → Nat → Int}
theorem Elim.unit (h : Elim n m A0 m s Ms) {i t : Nat} (ht : t < s.piv.length) : atQ s.A s.piv.length s.d i (s.piv.getD t 0) = if i = t then 1 else 0 := by
  by_cases hi : i < s.piv.length
  · rw [atQ_in hi, h.dia i t hi ht, mk_div h.d0]
    by_cases e : i = t
    · rw [if_pos e, if_pos e, Rat.div_def, Rat.mul_inv_cancel _ (cast_ne h.d0)]
    · rw [if_neg e, if_neg e]
      show ((0 : Int) : Rat) / _ = 0
      rw [Rat.div_def]
      show (0 : Rat) * _ = 0
      grind
  · rw [atQ_out hi, if_neg (by omega)]
end
theorem kerTo_at {n m : Nat} {A0 : Nat → Nat → Int} {s : RS} {Ms : Nat → Nat → Int} (h : Elim n m A0 m s Ms) {f : Nat} (hf : f < m) (hfp : f ∉ s.piv) : ∀ u, u ≤ s.piv.length → ∀ j, j < m →
    (zdu s m f u).getD j 0 = (if j = f then 1 else 0) - sumN u fun t => if j = s.piv.getD t 0 then atQ s.A s.piv.length s.d t f else 0 := by
  intro u
  induction u with
  | zero =>
    intro _ j hj
    rw [zdu, List.getD_eq_getElem?_getD, List.getElem?_set]
    by_cases e : f = j
    · rw [if_pos e, if_pos (by simpa using by omega), if_pos e.symm]; simp only [sumN, Option.getD_some]; grind
    · rw [if_neg e, if_neg (Ne.symm e), List.getElem?_replicate, if_pos hj]; simp only [sumN, Option.getD_some]; grind
  | succ u ih =>
    intro hu j hj
    have ih' := ih (by omega) j hj
    have hpm : s.piv.getD u 0 < m := h.lt u (by omega)
    have hpf : s.piv.getD u 0 ≠ f := fun e => hfp (by rw [← e, List.getD_eq_getElem?_getD, List.getElem?_eq_getElem (by omega)]; exact List.getElem_mem _)
    rw [zdu, List.getD_eq_getElem?_getD, List.getElem?_set, sumN]
    by_cases e : s.piv.getD u 0 = j
    · rw [if_pos e, if_pos (by rw [kerTo_len]; omega), if_pos e.symm, Option.getD_some, if_neg (fun e2 => hpf (e.trans e2)), sumN_zero fun t ht => ?_]
      · grind
      · refine if_neg fun e2 => ?_
        have := h.asc t u ht (by omega)
        omega
    · rw [if_neg e, if_neg (Ne.symm e), ← List.getD_eq_getElem?_getD, ih']
      grind
theorem kerQ_mem {s : RS} {m : Nat} : ∀ k, ∀ r ∈ kerQ s m k, ∃ f, f < k ∧ f ∉ s.piv ∧ r = zdu s m f s.piv.length := by
  intro k
  induction k with
  | zero => intro r hr; cases hr
  | succ k ih =>
    intro r hr
    by_cases h : k ∈ s.piv
    · rw [kerQ_in h] at hr
      obtain ⟨f, h1, h2⟩ := ih r hr
      exact ⟨f, by omega, h2⟩
    · rw [kerQ_out h] at hr
      rcases List.mem_append.1 hr with hr | hr
      · obtain ⟨f, h1, h2⟩ := ih r hr
        exact ⟨f, by omega, h2⟩
      · exact ⟨k, Nat.lt_succ_self _, h, List.mem_singleton.1 hr⟩
theorem kerQ_count (s : RS) (m : Nat) (hnd : s.piv.Nodup) : ∀ k, (kerQ s m k).length + (s.piv.filter fun p => decide (p < k)).length = k := by
  intro k
  induction k with
  | zero =>
    have : (s.piv.filter fun p => decide (p < 0)) = [] := List.filter_eq_nil_iff.2 fun p _ => by simp
    rw [this]; rfl
  | succ k ih =>
    have key : ∀ l : List Nat, l.Nodup → (l.filter fun p => decide (p < k + 1)).length = (l.filter fun p => decide (p < k)).length + if k ∈ l then 1 else 0 := by
      intro l
      induction l with
      | nil => intro _; rfl
      | cons a l ihl =>
        intro hl
        obtain ⟨h1, h2⟩ := List.nodup_cons.1 hl
        have := ihl h2
        simp only [List.filter_cons, decide_eq_true_eq, List.mem_cons]
        by_cases e : a = k
        · subst e
          rw [if_pos (by omega), if_neg (by omega), List.length_cons, this, if_neg h1, if_pos (.inl rfl)]
        · by_cases e2 : a < k
          · rw [if_pos (by omega), if_pos e2, List.length_cons, List.length_cons, this]
            by_cases e3 : k ∈ l
            · rw [if_pos e3, if_pos (.inr e3)]
            · rw [if_neg e3, if_neg (by rintro (h | h); omega; exact e3 h)]
          · rw [if_neg (by omega), if_neg e2, this]
            by_cases e3 : k ∈ l
            · rw [if_pos e3, if_pos (.inr e3)]
            · rw [if_neg e3, if_neg (by rintro (h | h); omega; exact e3 h)]
    rw [key s.piv hnd]
    by_cases h : k ∈ s.piv
    · rw [kerQ_in h, if_pos h]; omega
    · rw [kerQ_out h, if_neg h, List.length_append, List.length_singleton]; omega
theorem Elim.nodup {n m k : Nat} {A0 : Nat → Nat → Int} {s : RS} {Ms : Nat → Nat → Int} (h : Elim n m A0 k s Ms) : s.piv.Nodup := by
  rw [List.nodup_iff_pairwise_ne, List.pairwise_iff_getElem]
  intro i j hi hj hij
  have := h.asc i j hij hj
  rw [List.getD_eq_getElem?_getD, List.getD_eq_getElem?_getD, List.getElem?_eq_getElem hi, List.getElem?_eq_getElem hj] at this
  simp only [Option.getD_some] at this
  omega
theorem ker_count {n m : Nat} {A0 : Nat → Nat → Int} {s : RS} {Ms : Nat → Nat → Int} (h : Elim n m A0 m s Ms) : s.piv.length + (kerQ s m m).length = m := by
  have h1 := kerQ_count s m h.nodup m
  have h2 : (s.piv.filter fun p => decide (p < m)) = s.piv := List.filter_eq_self.2 fun p hp => by
    obtain ⟨l, hl, rfl⟩ := List.getElem_of_mem hp
    have := h.lt l hl
    rw [List.getD_eq_getElem?_getD, List.getElem?_eq_getElem hl] at this
    simpa using this
  rw [h2] at h1
  omega
theorem spn_comb {n m : Nat} {A0 : Nat → Nat → Int} {v : RV} (h : Spn (zcy m A0 n) v) : ∃ c : Nat → Rat, ∀ x, v x = sumN n fun t => c t * rv m (A0 t) x := by
  induction h with
  | row v hv =>
    obtain ⟨t, ht, rfl⟩ := List.mem_map.1 hv
    have ht := List.mem_range.1 ht
    refine ⟨fun k => if k = t then 1 else 0, fun x => ?_⟩
    rw [zfh ht fun j _ hne => by show (if j = t then (1 : Rat) else 0) * _ = 0; rw [if_neg hne]; grind]
    show _ = (if t = t then (1 : Rat) else 0) * _
    rw [if_pos rfl]
    grind
  | lin a b u v _ _ h1 h2 =>
    obtain ⟨c, hc⟩ := h1
    obtain ⟨e, he⟩ := h2
    refine ⟨fun t => a * c t + b * e t, fun x => ?_⟩
    show a * u x + b * v x = _
    rw [hc, he, ← zcb, ← zcb, ← sumN_add]
    exact zbg fun t _ => by grind
theorem spn_orth {n m : Nat} {A0 : Nat → Nat → Int} {v : RV} (h : Spn (zcy m A0 n) v) {y : Nat → Rat} (hy : ∀ t, t < n → sumN m (fun x => y x * rv m (A0 t) x) = 0) : sumN m (fun x => y x * v x) = 0 := by
  induction h with
  | row v hv =>
    obtain ⟨t, ht, rfl⟩ := List.mem_map.1 hv
    exact hy t (List.mem_range.1 ht)
  | lin a b u v _ _ h1 h2 =>
    have e : sumN m (fun x => y x * (a * u x + b * v x)) = a * sumN m (fun x => y x * u x) + b * sumN m (fun x => y x * v x) := by
      rw [← zcb, ← zcb, ← sumN_add]
      exact zbg fun x _ => by grind
    show sumN m (fun x => y x * (a * u x + b * v x)) = 0
    rw [e, h1, h2]
    grind
theorem span_run (n m : Nat) (A0 : Nat → Nat → Int) : ∀ k, k ≤ m → ∀ l, l < n → Spn (zcy m A0 n) (rv m ((runK n m A0 k).A l)) := by
  intro k
  induction k with
  | zero => intro _ l hl; exact .row _ (rowsL_mem hl)
  | succ k ih =>
    intro hk l hl
    have ih := ih (by omega)
    obtain ⟨Ms, h⟩ := elim_run n m A0 k (by omega)
    rw [runK]
    cases e : zek (runK n m A0 k).A (runK n m A0 k).piv.length n k with
    | none => exact ih l hl
    | some r =>
      obtain ⟨h1, h2, h3, _⟩ := zfs e
      have hs := h.swap (by omega) h1 h2
      obtain ⟨Ns, hf⟩ := hs.flip (c := k) (by omega) (show (runK n m A0 k).piv.length < n by omega)
      obtain ⟨s, hs'⟩ : ∃ s, s = runK n m A0 k := ⟨_, rfl⟩
      rw [← hs'] at ih h h1 h3 hs hf ⊢
      have hsw : ∀ l, l < n → Spn (zcy m A0 n) (rv m (swF s.A s.piv.length r l)) := fun l hl => by
        unfold swF
        split
        · exact ih r h2
        · split
          · exact ih _ (by omega)
          · exact ih l hl
      have hfl : ∀ l, l < n → Spn (zcy m A0 n) (rv m (zdg (swF s.A s.piv.length r) m s.piv.length k l)) := fun l hl => by
        unfold zdg
        split
        · exact hsw l hl
        · by_cases hln : l = s.piv.length
          · have e1 : rv m (zdv (swF s.A s.piv.length r) s.piv.length m l) = fun x => (-1) * rv m (swF s.A s.piv.length r l) x + 0 * rv m (swF s.A s.piv.length r l) x := by
              funext x
              by_cases hx : x < m
              · rw [zcd hx, zcd hx]; unfold zdv; rw [if_pos ⟨hln, hx⟩, Rat.intCast_neg]; grind
              · rw [zew hx, zew hx]; grind
            rw [e1]
            exact .lin _ _ _ _ (hsw l hl) (hsw l hl)
          · have e1 : rv m (zdv (swF s.A s.piv.length r) s.piv.length m l) = rv m (swF s.A s.piv.length r l) := rv_ext fun x hx => by unfold zdv; rw [if_neg fun e => hln e.1]
            rw [e1]
            exact hsw l hl
      have hnp : s.piv.length < n := by omega
      have hpos : 0 < zdg (swF s.A s.piv.length r) m s.piv.length k s.piv.length k := by
        unfold zdg
        split
        · assumption
        · rename_i hn
          unfold zdv
          rw [if_pos ⟨rfl, by omega⟩]
          rw [swF_i] at hn ⊢
          omega
      have hc := (hf.clear (by omega) hnp hpos).2
      show Spn _ (rv m (zch (zdg (swF s.A s.piv.length r) m s.piv.length k) m s.piv.length k s.d n l))
      obtain ⟨B, hB⟩ : ∃ B, B = zdg (swF s.A s.piv.length r) m s.piv.length k := ⟨_, rfl⟩
      have hc : ∀ a b, a < n → b < m → a ≠ s.piv.length → ((zch B m s.piv.length k s.d n a b : Int) : Rat) = ((B a b : Rat) * (B s.piv.length k : Rat) - (B a k : Rat) * (B s.piv.length b : Rat)) / ((s.d : Int) : Rat) := by rw [hB]; exact hc
      rw [← hB] at hfl ⊢
      by_cases hln : l = s.piv.length
      · have e1 : rv m (zch B m s.piv.length k s.d n l) = rv m (B l) := rv_ext fun x hx => by rw [hln, clrTo_np]
        rw [e1]
        exact hfl l hl
      · have e1 : rv m (zch B m s.piv.length k s.d n l) = fun x => ((B s.piv.length k : Rat) * ((s.d : Int) : Rat)⁻¹) * rv m (B l) x + (-((B l k : Rat) * ((s.d : Int) : Rat)⁻¹)) * rv m (B s.piv.length) x := by
          funext x
          by_cases hx : x < m
          · rw [zcd hx, zcd hx, zcd hx, hc l x hl hx hln, Rat.div_def]; grind
          · rw [zew hx, zew hx, zew hx]; grind
        rw [e1]
        exact .lin _ _ _ _ (hfl l hl) (hfl _ hnp)
theorem ker_hits {n m : Nat} {A0 : Nat → Nat → Int} {s : RS} {Ms : Nat → Nat → Int} (h : Elim n m A0 m s Ms) (hsp : ∀ l, l < n → Spn (zcy m A0 n) (rv m (s.A l))) {y b : Nat → Rat} (hy : ∀ t, t < n → sumN m (fun x => y x * (A0 t x : Rat)) = 0) (hb : sumN m (fun x => y x * b x) ≠ 0) :
    ∃ f, f < m ∧ f ∉ s.piv ∧ sumN m (fun j => (zdu s m f s.piv.length).getD j 0 * b j) ≠ 0 := by
  refine Classical.byContradiction fun hno => hb ?_
  have hall : ∀ f, f < m → f ∉ s.piv → sumN m (fun j => (zdu s m f s.piv.length).getD j 0 * b j) = 0 := fun f hf hfp => Classical.byContradiction fun hne => hno ⟨f, hf, hfp, hne⟩
  have hg : ∀ f, f < m → b f = sumN s.piv.length fun t => atQ s.A s.piv.length s.d t f * b (s.piv.getD t 0) := by
    intro f hf
    by_cases hfp : f ∈ s.piv
    · obtain ⟨u, hu, rfl⟩ := List.getElem_of_mem hfp
      have eu : s.piv.getD u 0 = s.piv[u] := by rw [List.getD_eq_getElem?_getD, List.getElem?_eq_getElem hu]; rfl
      rw [← eu, zfh hu fun t _ hne => by rw [h.unit hu, if_neg hne]; grind, h.unit hu, if_pos rfl]
      grind
    · have e := hall f hf hfp
      have e1 : sumN m (fun j => (zdu s m f s.piv.length).getD j 0 * b j) = sumN m fun j => ((if j = f then 1 else 0) * b j) + (-1) * sumN s.piv.length fun t => (if j = s.piv.getD t 0 then atQ s.A s.piv.length s.d t f else 0) * b j := by
        refine zbg fun j hj => ?_
        rw [kerTo_at h hf hfp _ (Nat.le_refl _) j hj]
        have e2 : (sumN s.piv.length fun t => (if j = s.piv.getD t 0 then atQ s.A s.piv.length s.d t f else 0) * b j) = b j * sumN s.piv.length fun t => if j = s.piv.getD t 0 then atQ s.A s.piv.length s.d t f else 0 := by
          rw [← zcb]
          exact zbg fun t _ => Rat.mul_comm _ _
        rw [e2]
        grind
      rw [e1, sumN_add, zcb, sumN_swap, zfh hf fun j _ hne => by rw [if_neg hne]; grind, if_pos rfl] at e
      have e3 : (sumN s.piv.length fun t => sumN m fun j => (if j = s.piv.getD t 0 then atQ s.A s.piv.length s.d t f else 0) * b j) = sumN s.piv.length fun t => atQ s.A s.piv.length s.d t f * b (s.piv.getD t 0) := by
        refine zbg fun t ht => ?_
        rw [zfh (h.lt t ht) fun j _ hne => by rw [if_neg hne]; grind, if_pos rfl]
      rw [e3] at e
      grind
  have hA : ∀ t, t < s.piv.length → sumN m (fun x => y x * atQ s.A s.piv.length s.d t x) = 0 := by
    intro t ht
    have e := spn_orth (hsp t (Nat.lt_of_lt_of_le ht h.len)) (y := y) fun u hu => by
      have e2 : sumN m (fun x => y x * rv m (A0 u) x) = sumN m fun x => y x * (A0 u x : Rat) := zbg fun x hx => by rw [zcd hx]
      rw [e2]
      exact hy u hu
    have e1 : sumN m (fun x => y x * atQ s.A s.piv.length s.d t x) = ((s.d : Int) : Rat)⁻¹ * sumN m fun x => y x * rv m (s.A t) x := by
      rw [← zcb]
      refine zbg fun x hx => ?_
      rw [atQ_in ht, mk_div h.d0, zcd hx, Rat.div_def]
      grind
    rw [e1, e]
    grind
  have e1 : sumN m (fun x => y x * b x) = sumN m fun x => sumN s.piv.length fun t => b (s.piv.getD t 0) * (y x * atQ s.A s.piv.length s.d t x) := by
    refine zbg fun x hx => ?_
    rw [hg x hx, ← zcb]
    exact zbg fun t _ => by grind
  rw [e1, sumN_swap]
  refine sumN_zero fun t ht => ?_
  rw [zcb, hA t ht]
  grind
theorem kerQ_has {s : RS} {m f : Nat} (hfp : f ∉ s.piv) : ∀ k, f < k → zdu s m f s.piv.length ∈ kerQ s m k := by
  intro k
  induction k with
  | zero => intro h; omega
  | succ k ih =>
    intro h
    by_cases hk : k ∈ s.piv
    · rw [kerQ_in hk]
      refine ih ?_
      rcases Nat.lt_or_ge f k with h1 | h1
      · exact h1
      · obtain rfl : f = k := by omega
        exact absurd hk hfp
    · rw [kerQ_out hk]
      rcases Nat.lt_or_ge f k with h1 | h1
      · exact List.mem_append.2 (.inl (ih h1))
      · obtain rfl : f = k := by omega
        exact List.mem_append.2 (.inr (List.mem_singleton.2 rfl))
theorem solTo_at {n m M : Nat} {A0 : Nat → Nat → Int} {s : RS} {Ms : Nat → Nat → Int} (h : Elim n M A0 m s Ms) : ∀ u, u ≤ s.piv.length → ∀ j, j < m →
    (zdq s m u).getD j 0 = sumN u fun t => if j = s.piv.getD t 0 then atQ s.A s.piv.length s.d t m else 0 := by
  intro u
  induction u with
  | zero =>
    intro _ j hj
    rw [zdq, List.getD_eq_getElem?_getD, List.getElem?_replicate, if_pos hj]
    rfl
  | succ u ih =>
    intro hu j hj
    have ih' := ih (by omega) j hj
    have hpm : s.piv.getD u 0 < m := h.lt u (by omega)
    rw [zdq, List.getD_eq_getElem?_getD, List.getElem?_set, sumN]
    by_cases e : s.piv.getD u 0 = j
    · rw [if_pos e, if_pos (by rw [solTo_len]; omega), if_pos e.symm, Option.getD_some, sumN_zero fun t ht => ?_]
      · grind
      · refine if_neg fun e2 => ?_
        have := h.asc t u ht (by omega)
        omega
    · rw [if_neg e, if_neg (Ne.symm e), ← List.getD_eq_getElem?_getD, ih']
      grind
section
variable {n m : Nat} {M : List (List Rat)} {b : List Rat} {s : RS}
theorem solve_ok (hs : s = runK n (m + 1) (zbj (zdr M b n)) m) (hn : M.length = n) (hbl : b.length = n) (hrow : ∀ r ∈ M, r.length = m) (hnone : ¬ noneS s n m) : zfa M (zdq s m s.piv.length) = b := by
  obtain ⟨Ms, h⟩ := elim_run n (m + 1) (zbj (zdr M b n)) m (by omega)
  rw [← hs] at h
  apply List.ext_getElem
  · rw [applyQ_len, hn, hbl]
  · intro i h1 h2
    have hi : i < n := by omega
    have hr : M[i]? = some M[i] := List.getElem?_eq_getElem (by omega)
    obtain ⟨r, hr'⟩ : ∃ r, r = M[i] := ⟨_, rfl⟩
    rw [← hr'] at hr
    have hl : r.length = m := hrow r (List.mem_of_getElem? hr)
    have e0 : (zfa M (zdq s m s.piv.length))[i] = dotQ r (zdq s m s.piv.length) := by
      have := applyQ_at (x := zdq s m s.piv.length) hr
      rw [List.getElem?_eq_getElem h1] at this
      exact Option.some.inj this
    rw [e0, dotQ_sum r _ (by rw [hl, solTo_len]), hl]
    have hz : ∀ j, s.piv.length ≤ j → j < n → s.A j m = 0 := fun j h3 h4 => Classical.byContradiction fun hne => hnone ⟨j, h3, h4, hne⟩
    have e := h.whole (by omega) hi (Nat.lt_succ_self m) (.inr hz)
    have hw := wideB_at (m := m) (b := b) hi hr
    obtain ⟨L, hL⟩ : ∃ L, L = ((zdy (r ++ [b.getD i 0]) : Nat) : Rat) := ⟨_, rfl⟩
    have hL0 : L ≠ 0 := by rw [hL]; exact cast_ne (lcmTo_pos _)
    rw [zdi hw (getD_app2 hl), ← hL] at e
    have e2 : (sumN s.piv.length fun l => (zbj (zdr M b n) i (s.piv.getD l 0) : Rat) * (s.A l m : Rat)) = (((s.d : Int) : Rat) * L) * sumN s.piv.length fun l => r.getD (s.piv.getD l 0) 0 * atQ s.A s.piv.length s.d l m := by
      rw [← zcb]
      refine zbg fun l hl' => ?_
      rw [zdi hw (getD_app1 hl (h.lt l hl')), ← hL, atQ_in hl', mk_div h.d0]
      have := Rat.div_mul_cancel (a := (s.A l m : Rat)) (cast_ne h.d0)
      grind
    rw [e2] at e
    have e3 : b.getD i 0 = sumN s.piv.length fun l => r.getD (s.piv.getD l 0) 0 * atQ s.A s.piv.length s.d l m := by
      refine cancelL (L := ((s.d : Int) : Rat) * L) (fun e => by rcases Rat.mul_eq_zero.1 e with e | e; exact cast_ne h.d0 e; exact hL0 e) ?_
      grind
    have e4 : (sumN m fun j => r.getD j 0 * (zdq s m s.piv.length).getD j 0) = sumN m fun j => sumN s.piv.length fun t => r.getD j 0 * (if j = s.piv.getD t 0 then atQ s.A s.piv.length s.d t m else 0) := by
      refine zbg fun j hj => ?_
      rw [solTo_at h _ (Nat.le_refl _) j hj, zcb]
    rw [e4, sumN_swap]
    have e5 : (sumN s.piv.length fun t => sumN m fun j => r.getD j 0 * (if j = s.piv.getD t 0 then atQ s.A s.piv.length s.d t m else 0)) = sumN s.piv.length fun l => r.getD (s.piv.getD l 0) 0 * atQ s.A s.piv.length s.d l m := by
      refine zbg fun t ht => ?_
      rw [zfh (h.lt t ht) fun j _ hne => by rw [if_neg hne]; grind, if_pos rfl]
    rw [e5, ← e3, List.getD_eq_getElem?_getD, List.getElem?_eq_getElem h2]
    rfl
theorem turnQ_cell {r c : Nat} (hn : M.length = n) (hr : r < m) (hc : c < n) : ∃ l, (zdx M m)[r]? = some l ∧ l[c]? = some ((M.getD c []).getD r 0) := by
  refine ⟨colT M r, ?_, ?_⟩
  · unfold zdx
    rw [List.getElem?_map, List.getElem?_range hr]
    rfl
  · unfold colT
    rw [List.getElem?_map, List.getElem?_eq_getElem (by omega)]
    have e : M.getD c [] = M[c] := by rw [List.getD_eq_getElem?_getD, List.getElem?_eq_getElem (by omega)]; rfl
    rw [e]
    rfl
theorem solve_not {s' : RS} (hs : s = runK n (m + 1) (zbj (zdr M b n)) m) (hs' : s' = runK m n (zbj (zdx M m)) n) (hn : M.length = n) (hbl : b.length = n) (hrow : ∀ r ∈ M, r.length = m) (hnone : noneS s n m) : ∃ q ∈ kerQ s' n n, dotQ q b ≠ 0 := by
  obtain ⟨Ms, h⟩ := elim_run n (m + 1) (zbj (zdr M b n)) m (by omega)
  obtain ⟨Ns, h'⟩ := elim_run m n (zbj (zdx M m)) n (Nat.le_refl _)
  obtain ⟨i, hi1, hi2, hne⟩ := hnone
  obtain ⟨c, hc⟩ := spn_comb (span_run n (m + 1) (zbj (zdr M b n)) m (by omega) i hi2)
  rw [← hs] at h hc
  rw [← hs'] at h'
  have hrr : ∀ t, t < n → M[t]? = some (M.getD t []) := fun t ht => by rw [List.getD_eq_getElem?_getD, List.getElem?_eq_getElem (by omega)]; rfl
  have hrl : ∀ t, t < n → (M.getD t []).length = m := fun t ht => hrow _ (List.mem_of_getElem? (hrr t ht))
  obtain ⟨y, hy⟩ : ∃ y : Nat → Rat, y = fun t => c t * ((zdy (M.getD t [] ++ [b.getD t 0]) : Nat) : Rat) := ⟨_, rfl⟩
  have hyx : ∀ x, x < m → sumN n (fun t => y t * (M.getD t []).getD x 0) = 0 := by
    intro x hx
    have e := hc x
    rw [zcd (by omega), h.zero i hi1 hi2 x hx] at e
    have e2 : (sumN n fun t => c t * rv (m + 1) (zbj (zdr M b n) t) x) = sumN n fun t => y t * (M.getD t []).getD x 0 := by
      refine zbg fun t ht => ?_
      rw [zcd (by omega), zdi (wideB_at (m := m) ht (hrr t ht)) (getD_app1 (hrl t ht) hx), hy]
      grind
    rw [← e2, ← e]
    rfl
  have hyb : sumN n (fun t => y t * b.getD t 0) ≠ 0 := by
    have e := hc m
    rw [zcd (by omega)] at e
    have e2 : (sumN n fun t => c t * rv (m + 1) (zbj (zdr M b n) t) m) = sumN n fun t => y t * b.getD t 0 := by
      refine zbg fun t ht => ?_
      rw [zcd (by omega), zdi (wideB_at (m := m) ht (hrr t ht)) (getD_app2 (hrl t ht)), hy]
      grind
    rw [← e2, ← e]
    intro e3
    exact hne (Rat.intCast_inj.1 (by rw [e3]; rfl))
  obtain ⟨f, hf, hfp, hfn⟩ := ker_hits h' (by rw [hs']; exact span_run m n _ n (Nat.le_refl _)) (y := y) (b := fun j => b.getD j 0) (fun x hx => by
    have e2 : sumN n (fun t => y t * ((zbj (zdx M m) x t : Int) : Rat)) = ((zdy ((zdx M m).getD x []) : Nat) : Rat) * sumN n fun t => y t * (M.getD t []).getD x 0 := by
      rw [← zcb]
      refine zbg fun t ht => ?_
      obtain ⟨l, hl, hlt⟩ := turnQ_cell hn hx ht
      rw [zdi hl hlt]
      have e3 : (zdx M m).getD x [] = l := by rw [List.getD_eq_getElem?_getD, hl]; rfl
      rw [e3]
      grind
    rw [e2, hyx x hx]
    grind) hyb
  refine ⟨_, kerQ_has hfp n hf, ?_⟩
  rw [dotQ_sum _ _ (by rw [kerTo_len, hbl]), kerTo_len]
  exact hfn
end
theorem find_ext {p q : Nat → Bool} : ∀ l : List Nat, (∀ x ∈ l, p x = q x) → l.find? p = l.find? q
  | [], _ => rfl
  | a :: l, h => by rw [List.find?_cons, List.find?_cons, h a (by simp), find_ext l fun x hx => h x (by simp [hx])]
theorem firstR_congr {A B : Nat → Nat → Int} {np n k : Nat} (h : ∀ r, r < n → A r k = B r k) : zek A np n k = zek B np n k :=
  find_ext _ fun r hr => by rw [h r (List.mem_range.1 hr)]
theorem runK_cut {n m m' : Nat} {A A' : Nat → Nat → Int} (hm : m ≤ m') (hA : ∀ a b, a < n → b < m → A a b = A' a b) : ∀ k, k ≤ m → (runK n m A k).piv = (runK n m' A' k).piv ∧ (runK n m A k).d = (runK n m' A' k).d ∧ ∀ a b, a < n → b < m → (runK n m A k).A a b = (runK n m' A' k).A a b := by
  intro k
  induction k with
  | zero => intro _; exact ⟨rfl, rfl, hA⟩
  | succ k ih =>
    intro hk
    obtain ⟨h1, h2, h3⟩ := ih (by omega)
    rw [runK, runK]
    have ef : zek (runK n m A k).A (runK n m A k).piv.length n k = zek (runK n m' A' k).A (runK n m' A' k).piv.length n k := by rw [h1]; exact firstR_congr fun r hr => h3 r k hr (by omega)
    rw [ef]
    cases e : zek (runK n m' A' k).A (runK n m' A' k).piv.length n k with
    | none => exact ⟨h1, h2, h3⟩
    | some r =>
      obtain ⟨g1, g2, _, _⟩ := zfs e
      obtain ⟨s, hs⟩ : ∃ s, s = runK n m A k := ⟨_, rfl⟩
      obtain ⟨s', hs'⟩ : ∃ s', s' = runK n m' A' k := ⟨_, rfl⟩
      rw [← hs, ← hs'] at h1 h2 h3
      rw [← hs'] at g1
      show (stepG n m k (runK n m A k) r).piv = (stepG n m' k (runK n m' A' k) r).piv ∧ (stepG n m k (runK n m A k) r).d = (stepG n m' k (runK n m' A' k) r).d ∧ ∀ a b, a < n → b < m → (stepG n m k (runK n m A k) r).A a b = (stepG n m' k (runK n m' A' k) r).A a b
      rw [← hs, ← hs']
      have hnp : s'.piv.length < n := by omega
      have hsw : ∀ a b, a < n → b < m → swF s.A s.piv.length r a b = swF s'.A s'.piv.length r a b := fun a b ha hb => by
        rw [h1]
        unfold swF
        split
        · exact h3 r b g2 hb
        · split
          · exact h3 _ b hnp hb
          · exact h3 a b ha hb
      have hfl : ∀ a b, a < n → b < m → zdg (swF s.A s.piv.length r) m s.piv.length k a b = zdg (swF s'.A s'.piv.length r) m' s'.piv.length k a b := fun a b ha hb => by
        unfold zdg
        rw [hsw s.piv.length k (by rw [h1]; exact hnp) (by omega), h1]
        split
        · have := hsw a b ha hb; rw [h1] at this; exact this
        · unfold zdv
          have := hsw a b ha hb
          rw [h1] at this
          by_cases e : a = s'.piv.length
          · rw [if_pos ⟨e, hb⟩, if_pos ⟨e, by omega⟩, this]
          · rw [if_neg fun h => e h.1, if_neg fun h => e h.1, this]
      refine ⟨by show s.piv ++ [k] = s'.piv ++ [k]; rw [h1], ?_, fun a b ha hb => ?_⟩
      · show (zdg (swF s.A s.piv.length r) m s.piv.length k s.piv.length k).natAbs = (zdg (swF s'.A s'.piv.length r) m' s'.piv.length k s'.piv.length k).natAbs
        rw [hfl s.piv.length k (by rw [h1]; exact hnp) (by omega), h1]
      · show zch (zdg (swF s.A s.piv.length r) m s.piv.length k) m s.piv.length k s.d n a b = zch (zdg (swF s'.A s'.piv.length r) m' s'.piv.length k) m' s'.piv.length k s'.d n a b
        have q1 := hfl a b ha hb
        have q2 := hfl s'.piv.length k hnp (by omega)
        have q3 := hfl a k ha (by omega)
        have q4 := hfl s'.piv.length b hnp hb
        rw [h1] at q1 q2 q3 q4 ⊢
        unfold zch
        rw [q1, q2, q3, q4, h2]
        by_cases e : a < n ∧ a ≠ s'.piv.length ∧ b < m
        · rw [if_pos e, if_pos ⟨e.1, e.2.1, by omega⟩]
        · rw [if_neg e, if_neg fun h => e ⟨h.1, h.2.1, hb⟩]
def idQ (n : Nat) : List (List Rat) := (List.range n).map fun i => zbv i n
theorem mulQ_id {M N : List (List Rat)} {n : Nat} (hM : M.length = n) (hMr : ∀ r ∈ M, r.length = n) (hN : N.length = n) (h : ∀ i j, i < n → j < n → sumN n (fun l => (M.getD i []).getD l 0 * (N.getD l []).getD j 0) = if i = j then 1 else 0) : mulQ M N n = idQ n := by
  apply List.ext_getElem
  · rw [mulQ_len, hM, idQ, List.length_map, List.length_range]
  · intro i h1 h2
    rw [mulQ_len] at h1
    have hi : i < n := by omega
    have e1 : M.getD i [] = M[i] := by rw [List.getD_eq_getElem?_getD, List.getElem?_eq_getElem h1]; rfl
    simp only [mulQ, idQ, List.getElem_map, List.getElem_range]
    apply List.ext_getElem
    · rw [lineQ_len, unitTo_len]
    · intro j h3 h4
      rw [lineQ_len] at h3
      have hr : M[i].length = n := hMr _ (List.getElem_mem _)
      simp only [lineQ, zdx, zbv, List.getElem_map, List.getElem_range]
      rw [dotQ_sum _ _ (by rw [colT_len, hr, hN]), hr, ← h i j hi h3]
      refine zbg fun l hl => ?_
      rw [e1]
      congr 1
      unfold colT
      rw [List.getD_eq_getElem?_getD, List.getElem?_map, List.getElem?_eq_getElem (by omega)]
      show _ = _
      rw [List.getD_eq_getElem?_getD (l := N), List.getElem?_eq_getElem (by omega)]
      rfl
theorem wideTo_at {M : List (List Rat)} {r : List Rat} {n i : Nat} (hi : i < n) (hr : M[i]? = some r) : (zcg M n n)[i]? = some (r ++ zbv i n) := by
  unfold zcg
  rw [List.getElem?_map, List.getElem?_range hi, Option.map_some, List.getD_eq_getElem?_getD, hr]
  rfl
theorem unitTo_at {i n j : Nat} (hj : j < n) : (zbv i n)[j]? = some (if i = j then 1 else 0) := by
  unfold zbv
  rw [List.getElem?_map, List.getElem?_range hj]
  rfl
theorem wide_l {r : List Rat} {n i j : Nat} (hl : r.length = n) (hj : j < n) : (r ++ zbv i n)[j]? = some (r.getD j 0) := by
  rw [List.getElem?_append_left (by omega), List.getD_eq_getElem?_getD, List.getElem?_eq_getElem (by omega)]; rfl
theorem wide_r {r : List Rat} {n i j : Nat} (hl : r.length = n) (hj : j < n) : (r ++ zbv i n)[n + j]? = some (if i = j then 1 else 0) := by
  rw [List.getElem?_append_right (by omega), hl, Nat.add_sub_cancel_left]; exact unitTo_at hj
theorem lcm_unit (r : List Rat) (i : Nat) : ∀ n, zdy (r ++ zbv i n) = zdy r := by
  intro n
  induction n with
  | zero => show zdy (r ++ []) = _; rw [List.append_nil]
  | succ n ih =>
    rw [unitTo_snoc, ← List.append_assoc, lcmTo_snoc, ih]
    have e : (if i = n then (1 : Rat) else 0).den = 1 := by split <;> rfl
    rw [e]
    exact Nat.lcm_one_right _
section
variable {n : Nat} {M : List (List Rat)} {s : RS}
theorem asc_id {l : List Nat} {n : Nat} (hl : l.length = n) (hlt : ∀ c ∈ l, c < n) (ha : ∀ i j, i < j → j < l.length → l.getD i 0 < l.getD j 0) : ∀ i, i < n → l.getD i 0 = i := by
  have hge : ∀ i, i < n → i ≤ l.getD i 0 := by
    intro i
    induction i with
    | zero => intro _; exact Nat.zero_le _
    | succ i ih => intro h; have h1 := ih (by omega); have h2 := ha i (i + 1) (by omega) (by omega); omega
  have hle : ∀ d i, i + d + 1 = n → l.getD i 0 + d + 1 ≤ n := by
    intro d
    induction d with
    | zero =>
      intro i h
      have := hlt (l.getD i 0) (by rw [List.getD_eq_getElem?_getD, List.getElem?_eq_getElem (by omega)]; exact List.getElem_mem _)
      omega
    | succ d ih => intro i h; have h1 := ih (i + 1) (by omega); have h2 := ha i (i + 1) (by omega) (by omega); omega
  intro i hi
  have h1 := hge i hi
  have h2 := hle (n - 1 - i) i (by omega)
  omega
theorem inv_both (hs : s = runK n (n + n) (zbj (zcg M n n)) n) (hn : M.length = n) (hrow : ∀ r ∈ M, r.length = n) (hp : n ≤ s.piv.length) : mulQ M (invQ n s) n = idQ n ∧ mulQ (invQ n s) M n = idQ n := by
  obtain ⟨Ms, h⟩ := elim_run n (n + n) (zbj (zcg M n n)) n (by omega)
  rw [← hs] at h
  have hpl : s.piv.length = n := Nat.le_antisymm h.len hp
  have hpiv : ∀ i, i < n → s.piv.getD i 0 = i := asc_id hpl (by rw [hs]; exact runK_piv n) h.asc
  have hrr : ∀ t, t < n → M[t]? = some (M.getD t []) := fun t ht => by rw [List.getD_eq_getElem?_getD, List.getElem?_eq_getElem (by omega)]; rfl
  have hrl : ∀ t, t < n → (M.getD t []).length = n := fun t ht => hrow _ (List.mem_of_getElem? (hrr t ht))
  have hinvl : (invQ n s).length = n := by simp [invQ]
  have hinv : ∀ l j, l < n → j < n → ((invQ n s).getD l []).getD j 0 = (s.A l (n + j) : Rat) / ((s.d : Int) : Rat) := by
    intro l j hl hj
    have e : (invQ n s).getD l [] = rowQ s.A s.piv.length s.d l n n := by
      unfold invQ
      rw [List.getD_eq_getElem?_getD, List.getElem?_map, List.getElem?_range hl]
      rfl
    rw [e, rowQ_at hj, atQ_in (by omega), mk_div h.d0]
  have hd := cast_ne h.d0
  have hLw : ∀ t, t < n → ((zdy (M.getD t [] ++ zbv t n) : Nat) : Rat) ≠ 0 := fun t _ => cast_ne (lcmTo_pos _)
  constructor
  · refine mulQ_id hn hrow hinvl fun i j hi hj => ?_
    have e := h.whole (by omega) hi (show n + j < n + n by omega) (.inr fun t h1 h2 => by omega)
    have hw := wideTo_at hi (hrr i hi)
    rw [zdi hw (wide_r (hrl i hi) hj), hpl] at e
    have e2 : (sumN n fun l => (zbj (zcg M n n) i (s.piv.getD l 0) : Rat) * (s.A l (n + j) : Rat)) = (((s.d : Int) : Rat) * ((zdy (M.getD i [] ++ zbv i n) : Nat) : Rat)) * sumN n fun l => (M.getD i []).getD l 0 * ((invQ n s).getD l []).getD j 0 := by
      rw [← zcb]
      refine zbg fun l hl => ?_
      rw [hpiv l hl, zdi hw (wide_l (hrl i hi) hl), hinv l j hl hj]
      have := Rat.div_mul_cancel (a := (s.A l (n + j) : Rat)) hd
      grind
    rw [e2] at e
    refine cancelL (L := ((s.d : Int) : Rat) * ((zdy (M.getD i [] ++ zbv i n) : Nat) : Rat)) (fun e => by rcases Rat.mul_eq_zero.1 e with e | e; exact hd e; exact hLw i hi e) ?_
    grind
  · refine mulQ_id hinvl (fun r hr => ?_) hn fun l x hl hx => ?_
    · obtain ⟨i, _, rfl⟩ := List.mem_map.1 hr
      exact rowQ_len _ _ _ _ _ _
    obtain ⟨c, hc⟩ := spn_comb (span_run n (n + n) (zbj (zcg M n n)) n (by omega) l hl)
    rw [← hs] at hc
    have hcj : ∀ j, j < n → (s.A l (n + j) : Rat) = c j * ((zdy (M.getD j [] ++ zbv j n) : Nat) : Rat) := by
      intro j hj
      have e := hc (n + j)
      rw [zcd (by omega), zfh hj fun t ht hne => by rw [zcd (by omega), zdi (wideTo_at ht (hrr t ht)) (wide_r (hrl t ht) hj), if_neg hne]; grind, zcd (by omega), zdi (wideTo_at hj (hrr j hj)) (wide_r (hrl j hj) hj), if_pos rfl] at e
      rw [e]
      grind
    have e := hc x
    rw [zcd (by omega)] at e
    have hdia := h.dia l x (by omega) (by omega)
    rw [hpiv x hx] at hdia
    have e2 : (sumN n fun t => c t * rv (n + n) (zbj (zcg M n n) t) x) = ((s.d : Int) : Rat) * sumN n fun t => ((invQ n s).getD l []).getD t 0 * (M.getD t []).getD x 0 := by
      rw [← zcb]
      refine zbg fun t ht => ?_
      rw [zcd (by omega), zdi (wideTo_at ht (hrr t ht)) (wide_l (hrl t ht) hx), hinv l t hl ht]
      have h1 := hcj t ht
      have h2 := Rat.div_mul_cancel (a := (s.A l (n + t) : Rat)) hd
      grind
    rw [e2] at e
    refine cancelL (L := ((s.d : Int) : Rat)) hd ?_
    have e3 : (s.A l x : Rat) = (if l = x then (1 : Rat) else 0) * ((s.d : Int) : Rat) := by rw [hdia]; split <;> simp [Rat.one_mul, Rat.zero_mul]
    rw [← e3, e]
    grind
theorem inv_ker {s' : RS} (hs : s = runK n (n + n) (zbj (zcg M n n)) n) (hs' : s' = runK n n (zbj M) n) (hn : M.length = n) (hrow : ∀ r ∈ M, r.length = n) : s.piv.length + (kerQ s' n n).length = n := by
  obtain ⟨Ms, h'⟩ := elim_run n n (zbj M) n (Nat.le_refl _)
  have h1 := ker_count h'
  rw [← hs'] at h1
  have hc := runK_cut (n := n) (m := n) (m' := n + n) (A := zbj M) (A' := zbj (zcg M n n)) (by omega) (fun a b ha hb => by
    have hr : M[a]? = some (M.getD a []) := by rw [List.getD_eq_getElem?_getD, List.getElem?_eq_getElem (by omega)]; rfl
    have hl := hrow _ (List.mem_of_getElem? hr)
    obtain ⟨r, er⟩ : ∃ r, r = M.getD a [] := ⟨_, rfl⟩
    rw [← er] at hr hl
    have hx : r[b]? = some (r.getD b 0) := by rw [List.getD_eq_getElem?_getD, List.getElem?_eq_getElem (by omega)]; rfl
    rw [liftM_at hr hx, liftM_at (wideTo_at ha hr) (wide_l hl hb), lcm_unit]) n (Nat.le_refl _)
  have e : s.piv.length = s'.piv.length := by rw [hs, hs', hc.1]
  omega
end
def Big (B n m : Nat) (s : RS) : Prop := (∀ a b, a < n → b < m → (s.A a b).natAbs ≤ B) ∧ s.d ≤ B ∧ 0 < s.d
theorem big_cross {a p b c : Int} {d B : Nat} (ha : a.natAbs ≤ B) (hp : p.natAbs ≤ B) (hb : b.natAbs ≤ B) (hc : c.natAbs ≤ B) : (crossZ a p b c d).natAbs ≤ 2 * B * B := by
  unfold crossZ
  rw [Int.natAbs_tdiv]
  refine Nat.le_trans (Nat.div_le_self _ _) ?_
  have h1 : (a * p).natAbs ≤ B * B := by rw [Int.natAbs_mul]; exact Nat.mul_le_mul ha hp
  have h2 : (b * c).natAbs ≤ B * B := by rw [Int.natAbs_mul]; exact Nat.mul_le_mul hb hc
  have h3 : 2 * B * B = B * B + B * B := by rw [Nat.mul_assoc]; omega
  omega
theorem big_swap {A : Nat → Nat → Int} {B n m i r : Nat} (h : ∀ a b, a < n → b < m → (A a b).natAbs ≤ B) (hi : i < n) (hr : r < n) : ∀ a b, a < n → b < m → (swF A i r a b).natAbs ≤ B := fun a b ha hb => by
  unfold swF
  split
  · exact h _ _ hr hb
  · split
    · exact h _ _ hi hb
    · exact h _ _ ha hb
theorem big_flip {A : Nat → Nat → Int} {B n m i c : Nat} (h : ∀ a b, a < n → b < m → (A a b).natAbs ≤ B) : ∀ a b, a < n → b < m → (zdg A m i c a b).natAbs ≤ B := fun a b ha hb => by
  unfold zdg
  split
  · exact h _ _ ha hb
  · unfold zdv
    split
    · rw [Int.natAbs_neg]; exact h _ _ ha hb
    · exact h _ _ ha hb
theorem big_step {B n m k r : Nat} {s : RS} (h : Big B n m s) (hr : FirstRow s.A s.piv.length n k r) (hk : k < m) (hB : 1 ≤ B) : Big (2 * B * B) n m (stepG n m k s r) := by
  obtain ⟨h1, h2, h3⟩ := h
  obtain ⟨r1, r2, r3, _⟩ := hr
  have hp : s.piv.length < n := by omega
  have e1 := big_flip (i := s.piv.length) (c := k) (big_swap h1 hp r2)
  have hB2 : B ≤ 2 * B * B := by
    have := Nat.mul_le_mul_left (2 * B) hB
    omega
  refine ⟨fun a b ha hb => ?_, Nat.le_trans (e1 _ _ hp hk) hB2, ?_⟩
  · show (zch _ m s.piv.length k s.d n a b).natAbs ≤ _
    unfold zch
    split
    · exact big_cross (e1 _ _ ha hb) (e1 _ _ hp hk) (e1 _ _ ha hk) (e1 _ _ hp hb)
    · exact Nat.le_trans (e1 _ _ ha hb) hB2
  · show 0 < (zdg (swF s.A s.piv.length r) m s.piv.length k s.piv.length k).natAbs
    have : swF s.A s.piv.length r s.piv.length k ≠ 0 := by unfold swF; rw [if_pos rfl]; exact r3
    unfold zdg
    split
    · omega
    · unfold zdv
      rw [if_pos ⟨rfl, hk⟩]
      omega
def bigTo (B : Nat) : Nat → Nat
  | 0 => B
  | k + 1 => 2 * bigTo B k * bigTo B k
theorem bigTo_pos {B : Nat} (hB : 1 ≤ B) (k : Nat) : 1 ≤ bigTo B k := by
  induction k with
  | zero => exact hB
  | succ k ih =>
    have := Nat.mul_le_mul (Nat.mul_le_mul (Nat.le_refl 2) ih) ih
    show 1 ≤ 2 * bigTo B k * bigTo B k
    omega
theorem bigTo_mono {B : Nat} (hB : 1 ≤ B) {k l : Nat} (h : k ≤ l) : bigTo B k ≤ bigTo B l := by
  induction l with
  | zero => obtain rfl : k = 0 := by omega
            exact Nat.le_refl _
  | succ l ih =>
    rcases Nat.lt_or_ge k (l + 1) with h1 | h1
    · refine Nat.le_trans (ih (by omega)) ?_
      have := Nat.mul_le_mul_left (2 * bigTo B l) (bigTo_pos hB l)
      show _ ≤ 2 * bigTo B l * bigTo B l
      omega
    · obtain rfl : k = l + 1 := by omega
      exact Nat.le_refl _
theorem Big.le {B C n m : Nat} {s : RS} (h : Big B n m s) (hB : B ≤ C) : Big C n m s := ⟨fun a b ha hb => Nat.le_trans (h.1 a b ha hb) hB, Nat.le_trans h.2.1 hB, h.2.2⟩
theorem big_run {B n m : Nat} {A : Nat → Nat → Int} (hB : 1 ≤ B) (h : ∀ a b, a < n → b < m → (A a b).natAbs ≤ B) : ∀ k, k ≤ m → Big (bigTo B k) n m (runK n m A k) := by
  intro k
  induction k with
  | zero => exact fun _ => ⟨h, hB, Nat.one_pos⟩
  | succ k ih =>
    intro hk
    have ih := ih (by omega)
    rw [runK]
    cases e : zek (runK n m A k).A (runK n m A k).piv.length n k with
    | none => exact ih.le (bigTo_mono hB (Nat.le_succ k))
    | some r => exact big_step ih (zfs e) (by omega) (bigTo_pos hB k)
theorem big5 : bigTo 1536 5 < pw 13 := by decide
theorem big_run5 {n m : Nat} {A : Nat → Nat → Int} (h : ∀ a b, a < n → b < m → (A a b).natAbs ≤ 1536) {k : Nat} (hk : k ≤ m) (h5 : k ≤ 5) : (∀ a b, a < n → b < m → (lim ((runK n m A k).A a b).natAbs).length ≤ 13) ∧ (lim (runK n m A k).d).length ≤ 13 ∧ 0 < (runK n m A k).d := by
  obtain ⟨h1, h2, h3⟩ := (big_run (by omega) h k hk).le (bigTo_mono (by omega) h5)
  exact ⟨fun a b ha hb => lim_len_le.2 (Nat.lt_of_le_of_lt (h1 a b ha hb) big5), lim_len_le.2 (Nat.lt_of_le_of_lt h2 big5), h3⟩
theorem bnd_run5 {n m : Nat} {A : Nat → Nat → Int} (h : ∀ a b, a < n → b < m → (A a b).natAbs ≤ 1536) {k : Nat} (hk : k ≤ m) (h5 : k ≤ 5) : BndS n m (runK n m A k) := by
  obtain ⟨h1, h2, h3⟩ := big_run5 h hk h5
  refine ⟨fun a b ha hb => ⟨Nat.le_trans (h1 a b ha hb) (by omega), ?_⟩, by omega, h3⟩
  show (lim 1).length ≤ _
  rw [zde]; simp
theorem at_run5 {n m : Nat} {A : Nat → Nat → Int} (h : ∀ a b, a < n → b < m → (A a b).natAbs ≤ 1536) {k : Nat} (hk : k ≤ m) (h5 : k ≤ 5) {i j : Nat} (hj : j < m) : Sz (atQ (runK n m A k).A (runK n m A k).piv.length (runK n m A k).d i j) 13 := by
  obtain ⟨h1, h2, h3⟩ := big_run5 h hk h5
  by_cases hi : i < (runK n m A k).piv.length
  · rw [atQ_in hi]
    exact sz_of_mk (by omega) (h1 _ _ (Nat.lt_of_lt_of_le hi (runK_len k)) hj) h2
  · rw [atQ_out hi]
    exact Sz.zero.le (by omega)
theorem Twelve.den {B : Nat} {q : Rat} (h : Twelve B q) : q.den ∣ 12 ∧ ∀ c, q.den * c = 12 → (q.num * (c : Int)).natAbs ≤ B := by
  obtain ⟨z, h1, h2⟩ := h
  have e : q.num * 12 = z * (q.den : Int) := by
    have h3 : (q.num : Rat) = q * ((q.den : Nat) : Rat) := by
      have h3 := Rat.mkRat_self q
      rw [Rat.mkRat_eq_div] at h3
      have h4 : ((q.den : Nat) : Rat) ≠ 0 := cast_ne q.den_pos
      have h5 := Rat.div_mul_cancel (a := (q.num : Rat)) h4
      rw [h3] at h5
      exact h5.symm
    have h4 : ((q.num * 12 : Int) : Rat) = ((z * (q.den : Int) : Int) : Rat) := by
      rw [Rat.intCast_mul, Rat.intCast_mul, h3, ← h1]
      show _ * (12 : Rat) = q * 12 * ((q.den : Nat) : Rat)
      grind
    exact Rat.intCast_inj.1 h4
  have e2 : q.num.natAbs * 12 = z.natAbs * q.den := by
    have := congrArg Int.natAbs e
    rw [Int.natAbs_mul, Int.natAbs_mul] at this
    exact this
  refine ⟨Nat.Coprime.dvd_of_dvd_mul_left (m := q.num.natAbs) q.reduced.symm ⟨z.natAbs, by rw [e2, Nat.mul_comm]⟩, fun c hc => ?_⟩
  rw [← hc] at e2
  have e3 : q.num.natAbs * c * q.den = z.natAbs * q.den := by rw [← e2, Nat.mul_assoc, Nat.mul_comm c]
  have e4 := Nat.eq_of_mul_eq_mul_right q.den_pos e3
  rw [Int.natAbs_mul]
  show q.num.natAbs * c ≤ B
  omega
theorem lcmTo_fold12 {B : Nat} (r : List Rat) (h : ∀ q ∈ r, Twelve B q) : ∀ o, o ∣ 12 → (r.foldl (fun o q => Nat.lcm o q.den) o) ∣ 12 := by
  induction r with
  | nil => exact fun o ho => ho
  | cons q r ih => exact fun o ho => ih (fun p hp => h p (List.mem_cons_of_mem _ hp)) _ (Nat.lcm_dvd ho (h q List.mem_cons_self).den.1)
theorem lcmTo12 {B : Nat} {r : List Rat} (h : ∀ q ∈ r, Twelve B q) : zdy r ∣ 12 := lcmTo_fold12 r h 1 (Nat.one_dvd _)
theorem lift12 {B : Nat} {M : List (List Rat)} (h : ∀ r ∈ M, ∀ q ∈ r, Twelve B q) (i j : Nat) : (zbj M i j).natAbs ≤ B := by
  rcases e : M[i]? with _ | r
  · have e1 : M.getD i [] = [] := by rw [List.getD_eq_getElem?_getD, e]; rfl
    unfold zbj
    rw [e1]
    show ((0 : Int) * _).natAbs ≤ B
    rw [Int.zero_mul]
    exact Nat.zero_le _
  · rcases e2 : r[j]? with _ | x
    · have e1 : M.getD i [] = r := by rw [List.getD_eq_getElem?_getD, e]; rfl
      have e3 : r.getD j 0 = 0 := by rw [List.getD_eq_getElem?_getD, e2]; rfl
      unfold zbj
      rw [e1, e3]
      show ((0 : Int) * _).natAbs ≤ B
      rw [Int.zero_mul]
      exact Nat.zero_le _
    · rw [liftM_at e e2]
      have hr := List.mem_of_getElem? e
      have hx := List.mem_of_getElem? e2
      obtain ⟨h1, h2⟩ := (h r hr x hx).den
      obtain ⟨c, hc⟩ := h1
      obtain ⟨a, ha⟩ := lcmTo_dvd hx
      obtain ⟨b, hb⟩ := lcmTo12 (h r hr)
      rw [ha, Nat.mul_div_cancel_left a x.den_pos]
      rw [ha] at hb
      have e3 : x.den * (a * b) = 12 := by rw [← Nat.mul_assoc]; exact hb.symm
      have e4 := h2 (a * b) e3
      have hb0 : 1 ≤ b := by
        rcases Nat.eq_zero_or_pos b with h0 | h0
        · rw [h0] at hb; simp at hb
        · exact h0
      rw [Int.natAbs_mul] at e4 ⊢
      refine Nat.le_trans (Nat.mul_le_mul_left _ ?_) e4
      show a ≤ a * b
      have := Nat.mul_le_mul_left a hb0
      omega
theorem kerTo_sz {s : RS} {m f : Nat} (hat : ∀ t, Sz (atQ s.A s.piv.length s.d t f) 13) : ∀ t, ∀ q ∈ zdu s m f t, Sz q 13 := by
  intro t
  induction t with
  | zero =>
    intro q hq
    rw [zdu] at hq
    rcases List.mem_or_eq_of_mem_set hq with hq | rfl
    · rw [(List.mem_replicate.1 hq).2]; exact Sz.zero.le (by omega)
    · exact ⟨by show (lim 1).length ≤ _; rw [zde]; simp, by show (lim 1).length ≤ _; rw [zde]; simp⟩
  | succ t ih =>
    intro q hq
    rw [zdu] at hq
    rcases List.mem_or_eq_of_mem_set hq with hq | rfl
    · exact ih q hq
    · exact (hat t).neg
theorem ker_sz {n m : Nat} {A : Nat → Nat → Int} (h : ∀ a b, a < n → b < m → (A a b).natAbs ≤ 1536) (h5 : m ≤ 5) : ∀ r ∈ kerQ (runK n m A m) m m, ∀ q ∈ r, Sz q 13 := by
  intro r hr
  obtain ⟨f, hf, _, rfl⟩ := kerQ_mem m r hr
  exact kerTo_sz (fun t => at_run5 h (Nat.le_refl m) h5 hf) _
def ShortV (l : List Raw) : Prop := ∀ r ∈ l, r.num.length ≤ 3 ∧ r.den.length ≤ 3
theorem ShortV.snoc {l : List Raw} {r : Raw} (h : ShortV l) (h1 : r.num.length ≤ 3) (h2 : r.den.length ≤ 3) : ShortV (l ++ [r]) := by
  intro x hx
  rcases List.mem_append.1 hx with h0 | h0
  · exact h x h0
  · simp at h0; subst h0; exact ⟨h1, h2⟩
theorem drawn_lift {n m : Nat} {b : List (List Rat)} (h : DrawnM n m b) (hn : n ≤ 5) (x y : Nat) (_ : x < n) (_ : y < m) : (zbj b x y).natAbs ≤ 1536 := lift12 (h.twelve hn) x y
theorem ker_d {w : World} {v : Value} {b : List (List Rat)} {n m : Nat} {s : RS} (h : IsM w (Old w) v (rawM b)) (hB : Bru w) (hd : DrawnM n m b) (hn1 : 1 ≤ n) (hn5 : n ≤ 5) (hm1 : 1 ≤ m) (hm5 : m ≤ 5) (hs : s = runK n m (zbj b) m) :
    Calls Tryd.prog 26 #[v] w fun e w' => (∃ v', e = .returned (.tuple #[v', .int .i64 0]) ∧ IsM w' (Old w') v' (rawM (kerQ s m m))) ∧ Below w.heap.size w w' := by
  have hl := hd.len
  have hz : ∀ r ∈ b, ∀ q ∈ r, Sz q 1024 := fun r hr q hq => (hd.sz hn5 r hr q hq).le (by omega)
  refine kernel_l h hB hl hd.row hz hn1 (by omega) hm1 (by omega) (zeq (by omega) (by omega) hd.row hz) (fun k hk => bnd_run5 (drawn_lift hd hn5) hk (by omega)) hs (fun t f _ hf => ?_) fun r hr q hq => ?_
  · rw [hs]
    exact (at_run5 (drawn_lift hd hn5) (Nat.le_refl m) hm5 hf).le (by omega)
  · rw [hs] at hr
    exact (ker_sz (drawn_lift hd hn5) hm5 r hr q hq).le (by omega)
theorem apply_d {w : World} {v vx : Value} {M : List (List Rat)} {x : List Rat} {n m : Nat} (h : IsM w (Old w) v (rawM M)) (hx : IsV w (Old w) vx (rawV x)) (hB : Bru w) (hn : M.length = n) (hrow : ∀ r ∈ M, r.length = m) (hn1 : 1 ≤ n) (hn5 : n ≤ 5) (hm5 : m ≤ 5) (hxl : x.length = m) (hs : ∀ r ∈ M, ∀ q ∈ r, Sz q 13) (hsx : ∀ q ∈ x, Sz q 13) :
    Calls Tryd.prog 28 #[v, vx] w fun e w' => (∃ v', e = .returned (.tuple #[v', .int .i64 0]) ∧ IsV w' (Old w') v' (rawV (zfa M x))) ∧ Below w.heap.size w w' := by
  have hz : ∀ r ∈ M, ∀ q ∈ r, Sz q 1024 := fun r hr q hq => (hs r hr q hq).le (by omega)
  have hzx : ∀ q ∈ x, Sz q 1024 := fun q hq => (hsx q hq).le (by omega)
  refine vApply_good h hx hB hn hrow hn1 (by omega) (by omega) hxl (zeq (by omega) (by omega) hrow hz) (chkV_raw (by omega) hzx) hz hzx fun q hq => ?_
  obtain ⟨r, hr, rfl⟩ := List.mem_map.1 hq
  exact dotQ_little (k := 13) (by rw [hrow r hr]; omega) (hs r hr) hsx (by omega)
section
variable {n m : Nat} {b : List (List Rat)} {s : RS}
end
theorem Stb.drawn {α : Type} {R : World → (Nat → Prop) → Value → α → Prop} (hR : Stb R) {w w' : World} {g n : Nat} {v : Value} {x : α} (h : R w (New n w) v x) (hb : w.grownBy w' (some g)) (hg : g < n) : R w' (New n w') v x :=
  hR.to h fun b hb' => ⟨⟨hb'.1, Nat.lt_of_lt_of_le hb'.2 hb.size⟩, fun o => World.cell?_of_block (hb.block b hb'.2 (fun e => by have := hb'.1; cases e; omega))⟩
theorem vectorOf_i {w : World} {g : Nat} {l : List Int} (hD : IsD w g l) {n : Nat} {z : Int} (hz : z = (n : Int)) (hn : n ≤ 40) : Calls Tryd.prog 34 #[.pointer (some ⟨g, 0, none⟩), .int .i64 z] w (DrewR IsV (fun a => ∃ q : List Rat, a = rawV q ∧ q.length = n ∧ ∀ x ∈ q, Drawn 4 x) w g l) := by
  rw [hz]; exact vectorOf_l hD hn
theorem matrix_i {w : World} {g : Nat} {l : List Int} (hD : IsD w g l) {n m : Nat} {z y : Int} (hz : z = (n : Int)) (hy : y = (m : Int)) (hn : n ≤ 5) (hm : m ≤ 5) : Calls Tryd.prog 24 #[.pointer (some ⟨g, 0, none⟩), .int .i64 z, .int .i64 y] w (DrewR IsM (fun a => ∃ M : List (List Rat), a = rawM M ∧ DrawnM n m M) w g l) := by
  rw [hz, hy]; exact matrix_l hD hn hm
theorem drawn_szV {q : List Rat} (h : ∀ x ∈ q, Drawn 4 x) : ∀ x ∈ q, Sz x 1 := fun x hx => (h x hx).sz (by omega)
theorem le_sz {q : List Rat} {k n : Nat} (h : ∀ x ∈ q, Sz x k) (hk : k ≤ n) : ∀ x ∈ q, Sz x n := fun x hx => (h x hx).le hk
theorem le_szM {q : List (List Rat)} {k n : Nat} (h : ∀ r ∈ q, ∀ x ∈ r, Sz x k) (hk : k ≤ n) : ∀ r ∈ q, ∀ x ∈ r, Sz x n := fun r hr x hx => (h r hr x hx).le hk
theorem twelve_zero {B : Nat} : Twelve B 0 := ⟨0, by rw [Rat.zero_mul]; rfl, Nat.zero_le _⟩
theorem twelve_one {B : Nat} (h : 12 ≤ B) : Twelve B 1 := ⟨12, by rw [Rat.one_mul]; rfl, h⟩
theorem twelve_getD {B : Nat} {r : List Rat} (h : ∀ q ∈ r, Twelve B q) (x : Nat) : Twelve B (r.getD x 0) := by
  rw [List.getD_eq_getElem?_getD]
  rcases e : r[x]? with _ | q
  · exact twelve_zero
  · exact h q (List.mem_of_getElem? e)
section
variable {n m : Nat} {b : List (List Rat)} {u : List Rat} {s : RS}
theorem wideB_lift (hd : DrawnM n m b) (hn : n ≤ 5) (hu : ∀ x ∈ u, Drawn 4 x) (x y : Nat) (_ : x < n) (_ : y < m + 1) : (zbj (zdr b u n) x y).natAbs ≤ 1536 := by
  refine lift12 (fun r hr q hq => ?_) x y
  obtain ⟨i, hi, rfl⟩ := List.mem_map.1 hr
  have hi := List.mem_range.1 hi
  have hrr : b[i]? = some (b.getD i []) := by rw [List.getD_eq_getElem?_getD, List.getElem?_eq_getElem (by rw [hd.len]; exact hi)]; rfl
  rcases List.mem_append.1 hq with h | h
  · exact hd.twelve hn _ (List.mem_of_getElem? hrr) q h
  · rw [List.mem_singleton.1 h]
    exact (twelve_getD (fun q hq => (hu q hq).twelve) i).le (by omega)
theorem wideTo_lift (hd : DrawnM n n b) (hn : n ≤ 5) (x y : Nat) (_ : x < n) (_ : y < n + n) : (zbj (zcg b n n) x y).natAbs ≤ 1536 := by
  refine lift12 (fun r hr q hq => ?_) x y
  obtain ⟨i, hi, rfl⟩ := List.mem_map.1 hr
  have hi := List.mem_range.1 hi
  have hrr : b[i]? = some (b.getD i []) := by rw [List.getD_eq_getElem?_getD, List.getElem?_eq_getElem (by rw [hd.len]; exact hi)]; rfl
  rcases List.mem_append.1 hq with h | h
  · exact hd.twelve hn _ (List.mem_of_getElem? hrr) q h
  · obtain ⟨t, _, rfl⟩ := List.mem_map.1 h
    split
    · exact twelve_one (by omega)
    · exact twelve_zero
theorem turn_lift (hd : DrawnM n m b) (hn : n ≤ 5) (x y : Nat) (_ : x < m) (_ : y < n) : (zbj (zdx b m) x y).natAbs ≤ 1536 := by
  refine lift12 (fun r hr q hq => ?_) x y
  obtain ⟨c, _, rfl⟩ := List.mem_map.1 hr
  obtain ⟨r, hr, rfl⟩ := List.mem_map.1 hq
  exact twelve_getD (hd.twelve hn r hr) c
theorem solTo_sz (hat : ∀ t, Sz (atQ s.A s.piv.length s.d t m) 13) : ∀ u, ∀ q ∈ zdq s m u, Sz q 13 := by
  intro u
  induction u with
  | zero => intro q hq; rw [(List.mem_replicate.1 hq).2]; exact Sz.zero.le (by omega)
  | succ u ih =>
    intro q hq
    rcases List.mem_or_eq_of_mem_set hq with h | h
    · exact ih q h
    · rw [h]; exact hat _
theorem sol_sz (hd : DrawnM n m b) (hn5 : n ≤ 5) (hm5 : m ≤ 5) (hu : ∀ x ∈ u, Drawn 4 x) (hs : s = runK n (m + 1) (zbj (zdr b u n)) m) (k : Nat) : ∀ q ∈ zdq s m k, Sz q 13 := by
  rw [hs]
  exact solTo_sz (fun t => at_run5 (wideB_lift hd hn5 hu) (by omega) (by omega) (Nat.lt_succ_self m)) k
theorem solve_d {w : World} {v vb : Value} (h : IsM w (Old w) v (rawM b)) (hv : IsV w (Old w) vb (rawV u)) (hB : Bru w) (hd : DrawnM n m b) (hu : ∀ x ∈ u, Drawn 4 x) (hul : u.length = n) (hn1 : 1 ≤ n) (hn5 : n ≤ 4) (hm1 : 1 ≤ m) (hm5 : m ≤ 4) (hs : s = runK n (m + 1) (zbj (zdr b u n)) m) :
    Calls Tryd.prog 35 #[v, vb] w fun e w' => ((noneS s n m → e = .returned (.tuple #[.slice none 0 0, .int .i64 18])) ∧ (¬ noneS s n m → ∃ v', e = bndV v' (zdq s m s.piv.length) ∧ IsV w' (Old w') v' (rawV (zdq s m s.piv.length)))) ∧ Below w.heap.size w w' := by
  have hz : ∀ r ∈ b, ∀ q ∈ r, Sz q 1024 := fun r hr q hq => (hd.sz (by omega) r hr q hq).le (by omega)
  have hzu : ∀ q ∈ u, Sz q 1024 := fun q hq => ((hu q hq).sz (by omega)).le (by omega)
  exact solve_l h hv hB hd.len hul hd.row hz hzu hn1 (by omega) hm1 (by omega) (zeq (by rw [hd.len]; omega) (by omega) hd.row hz) (chkV_raw (by omega) hzu) (fun k hk => bnd_run5 (wideB_lift hd (by omega) hu) (by omega) (by omega)) hs
theorem solve_no {w : World} {v vb : Value} (h : IsM w (Old w) v (rawM b)) (hv : IsV w (Old w) vb (rawV u)) (hB : Bru w) (hd : DrawnM n m b) (hu : ∀ x ∈ u, Drawn 4 x) (hul : u.length = n) (hn1 : 1 ≤ n) (hn5 : n ≤ 4) (hm1 : 1 ≤ m) (hm5 : m ≤ 4) (hs : s = runK n (m + 1) (zbj (zdr b u n)) m) (hno : noneS s n m) :
    Calls Tryd.prog 35 #[v, vb] w fun e w' => e = .returned (.tuple #[.slice none 0 0, .int .i64 18]) ∧ Below w.heap.size w w' :=
  (solve_d h hv hB hd hu hul hn1 hn5 hm1 hm5 hs).mono fun e w' h => ⟨h.1.1 hno, h.2⟩
theorem solve_yes {w : World} {v vb : Value} (h : IsM w (Old w) v (rawM b)) (hv : IsV w (Old w) vb (rawV u)) (hB : Bru w) (hd : DrawnM n m b) (hu : ∀ x ∈ u, Drawn 4 x) (hul : u.length = n) (hn1 : 1 ≤ n) (hn5 : n ≤ 4) (hm1 : 1 ≤ m) (hm5 : m ≤ 4) (hs : s = runK n (m + 1) (zbj (zdr b u n)) m) (hno : ¬ noneS s n m) :
    Calls Tryd.prog 35 #[v, vb] w fun e w' => (∃ v', e = .returned (.tuple #[v', .int .i64 0]) ∧ IsV w' (Old w') v' (rawV (zdq s m s.piv.length))) ∧ Below w.heap.size w w' :=
  (solve_d h hv hB hd hu hul hn1 hn5 hm1 hm5 hs).mono fun e w' h => ⟨by
    obtain ⟨v', e1, e2⟩ := h.1.2 hno
    exact ⟨v', by rw [e1, bndV_ok fun q hq => (sol_sz hd (by omega) (by omega) hu hs _ q hq).le (by omega)], e2⟩, h.2⟩
theorem inv_sz (hd : DrawnM n n b) (hn5 : n ≤ 5) (hs : s = runK n (n + n) (zbj (zcg b n n)) n) : ∀ r ∈ invQ n s, ∀ q ∈ r, Sz q 13 := by
  intro r hr q hq
  obtain ⟨i, hi, rfl⟩ := List.mem_map.1 hr
  unfold rowQ at hq
  obtain ⟨j, hj, rfl⟩ := List.mem_map.1 hq
  have hj := List.mem_range.1 hj
  rw [hs]
  exact at_run5 (wideTo_lift hd hn5) (by omega) (by omega) (by omega)
theorem inverse_d {w : World} {v : Value} (h : IsM w (Old w) v (rawM b)) (hB : Bru w) (hd : DrawnM n n b) (hn1 : 1 ≤ n) (hn5 : n ≤ 4) (hs : s = runK n (n + n) (zbj (zcg b n n)) n) :
    Calls Tryd.prog 39 #[v] w fun e w' => ((s.piv.length < n → e = .returned (.tuple #[.slice none 0 0, .int .i64 15])) ∧ (n ≤ s.piv.length → ∃ v', e = bndM v' (invQ n s) ∧ IsM w' (Old w') v' (rawM (invQ n s)))) ∧ Below w.heap.size w w' := by
  have hz : ∀ r ∈ b, ∀ q ∈ r, Sz q 1024 := fun r hr q hq => (hd.sz (by omega) r hr q hq).le (by omega)
  exact inverse_l h hB hd.len hd.row hz hn1 (by omega) (zeq (by rw [hd.len]; omega) (by omega) hd.row hz) (fun k hk => bnd_run5 (wideTo_lift hd (by omega)) (by omega) (by omega)) hs
theorem inverse_no {w : World} {v : Value} (h : IsM w (Old w) v (rawM b)) (hB : Bru w) (hd : DrawnM n n b) (hn1 : 1 ≤ n) (hn5 : n ≤ 4) (hs : s = runK n (n + n) (zbj (zcg b n n)) n) (hp : s.piv.length < n) :
    Calls Tryd.prog 39 #[v] w fun e w' => e = .returned (.tuple #[.slice none 0 0, .int .i64 15]) ∧ Below w.heap.size w w' :=
  (inverse_d h hB hd hn1 hn5 hs).mono fun e w' h => ⟨h.1.1 hp, h.2⟩
theorem inverse_yes {w : World} {v : Value} (h : IsM w (Old w) v (rawM b)) (hB : Bru w) (hd : DrawnM n n b) (hn1 : 1 ≤ n) (hn5 : n ≤ 4) (hs : s = runK n (n + n) (zbj (zcg b n n)) n) (hp : n ≤ s.piv.length) :
    Calls Tryd.prog 39 #[v] w fun e w' => (∃ v', e = .returned (.tuple #[v', .int .i64 0]) ∧ IsM w' (Old w') v' (rawM (invQ n s))) ∧ Below w.heap.size w w' :=
  (inverse_d h hB hd hn1 hn5 hs).mono fun e w' h => ⟨by
    obtain ⟨v', e1, e2⟩ := h.1.2 hp
    exact ⟨v', by rw [e1, bndM_ok fun r hr q hq => (inv_sz hd (by omega) hs r hr q hq).le (by omega)], e2⟩, h.2⟩
theorem turnT_sz (hd : DrawnM n m b) (hn5 : n ≤ 5) : ∀ r ∈ zdx b m, ∀ q ∈ r, Sz q 1 := turnQ_sz hd.row (hd.sz hn5)
theorem kerT_d {w : World} {v : Value} (h : IsM w (Old w) v (rawM (zdx b m))) (hB : Bru w) (hd : DrawnM n m b) (hn1 : 1 ≤ n) (hn5 : n ≤ 4) (hm1 : 1 ≤ m) (hm5 : m ≤ 4) (hs : s = runK m n (zbj (zdx b m)) n) :
    Calls Tryd.prog 26 #[v] w fun e w' => (∃ v', e = .returned (.tuple #[v', .int .i64 0]) ∧ IsM w' (Old w') v' (rawM (kerQ s n n))) ∧ Below w.heap.size w w' := by
  have hz : ∀ r ∈ zdx b m, ∀ q ∈ r, Sz q 1024 := fun r hr q hq => (turnT_sz hd (by omega) r hr q hq).le (by omega)
  have hrow : ∀ r ∈ zdx b m, r.length = n := turnQ_row hd.len
  refine kernel_l h hB (turnQ_len b m) hrow hz hm1 (by omega) hn1 (by omega) (zeq (by rw [turnQ_len]; omega) (by omega) hrow hz) (fun k hk => bnd_run5 (turn_lift hd (by omega)) hk (by omega)) hs (fun t f _ hf => ?_) fun r hr q hq => ?_
  · rw [hs]
    exact (at_run5 (turn_lift hd (by omega)) (Nat.le_refl n) (by omega) hf).le (by omega)
  · rw [hs] at hr
    exact (ker_sz (turn_lift hd (by omega)) (by omega) r hr q hq).le (by omega)
theorem kerT_sz (hd : DrawnM n m b) (hn5 : n ≤ 4) (hs : s = runK m n (zbj (zdx b m)) n) : ∀ r ∈ kerQ s n n, ∀ q ∈ r, Sz q 13 := by
  intro r hr
  rw [hs] at hr
  exact ker_sz (turn_lift hd (by omega)) (by omega) r hr
theorem turn_d {w : World} {v : Value} (hv : IsM w (Old w) v (rawM b)) (hB : Bru w) (hd : DrawnM n m b) (hn1 : 1 ≤ n) (hn4 : n ≤ 4) (hm4 : m ≤ 4) :
    Calls Tryd.prog 37 #[v] w fun e w' => (∃ v', e = .returned (.tuple #[v', .int .i64 0]) ∧ IsM w' (Old w') v' (rawM (zdx b m))) ∧ Below w.heap.size w w' := by
  have hz : ∀ r ∈ b, ∀ q ∈ r, Sz q 1024 := fun r hr q hq => (hd.sz (by omega) r hr q hq).le (by omega)
  exact vTurn_good hv hB hd.len hd.row hn1 (by omega) (by omega) (zeq (by rw [hd.len]; omega) (by omega) hd.row hz) hz
theorem idQ_sz (n : Nat) : ∀ r ∈ idQ n, ∀ q ∈ r, Sz q 1024 := fun r hr => by
  obtain ⟨i, _, rfl⟩ := List.mem_map.1 hr
  exact unitTo_sz i n
theorem idQ_len (n : Nat) : (idQ n).length = n := by simp [idQ]
theorem invQ_len' (n : Nat) (s : RS) : (invQ n s).length = n := by simp [invQ]
theorem invQ_row' (n : Nat) (s : RS) : ∀ r ∈ invQ n s, r.length = n := fun r hr => by
  obtain ⟨i, _, rfl⟩ := List.mem_map.1 hr
  exact rowQ_len _ _ _ _ _ _
theorem mul_d {w : World} {v vn : Value} {M K : List (List Rat)} (h : IsM w (Old w) v (rawM M)) (hN : IsM w (Old w) vn (rawM K)) (hB : Bru w) (hn1 : 1 ≤ n) (hn4 : n ≤ 4) (hl : M.length = n) (hr : ∀ r ∈ M, r.length = n) (hl' : K.length = n) (hr' : ∀ r ∈ K, r.length = n) (hs : ∀ r ∈ M, ∀ q ∈ r, Sz q 13) (hs' : ∀ r ∈ K, ∀ q ∈ r, Sz q 13) (e : mulQ M K n = idQ n) :
    Calls Tryd.prog 40 #[v, vn] w fun e w' => (∃ v', e = .returned (.tuple #[v', .int .i64 0]) ∧ IsM w' (Old w') v' (rawM (idQ n))) ∧ Below w.heap.size w w' := by
  have hz := le_szM (n := 1024) hs (by omega)
  have hz' := le_szM (n := 1024) hs' (by omega)
  rw [← e]
  exact vMul_good h hN hB hl hr hn1 (by omega) hn1 (by omega) hl' hr' (by omega) (zeq (by omega) (by omega) hr hz) (zeq (by omega) (by omega) hr' hz') hz hz' (by rw [e]; exact idQ_sz n)
theorem dot_d {w : World} {va vb : Value} {a : List Rat} {d : Rat} (ha : IsV w (Old w) va (rawV a)) (hb : IsV w (Old w) vb (rawV u)) (hB : Bru w) (hla : a.length = n) (hn : n ≤ 4) (hlb : u.length = n) (sa : ∀ q ∈ a, Sz q 13) (sb : ∀ q ∈ u, Sz q 1) (hd : d = dotQ a u) :
    Calls Tryd.prog 38 #[va, vb] w fun e w' => (∃ v, e = .returned (.tuple #[v, .int .i64 0]) ∧ IsR w' (Old w') v (raw d)) ∧ Below w.heap.size w w' :=
  vDot_q ha hb hB (by omega) (by omega) (le_sz sa (by omega)) (le_sz sb (by omega)) hd (by rw [hd]; exact dotQ_little (k := 13) (by omega) sa (le_sz sb (by omega)) (by omega))
end
theorem limQ_pos {q : Rat} : 0 < (lim q.num.natAbs).length ↔ q ≠ 0 := by
  constructor
  · rintro h rfl
    simp [lim] at h
  · intro h
    rcases Nat.eq_zero_or_pos (lim q.num.natAbs).length with h0 | h0
    · refine absurd (Rat.num_eq_zero.1 ?_) h
      have := List.eq_nil_of_length_eq_zero h0
      have h2 := zbf q.num.natAbs
      rw [this] at h2
      have : q.num.natAbs = 0 := h2.symm
      omega
    · exact h0
theorem IsS.cap {α : Type} {n : Nat} {R : World → (Nat → Prop) → Value → α → Prop} {w : World} {S : Nat → Prop} {A : Option Addr} {m c : Nat} {l : List α} (h : IsS n R w S (.slice A m c) l) : m ≤ c ∧ c ≤ maxLen := by
  obtain ⟨A', c', es, hv, h1, h2, _⟩ := h
  simp only [Value.slice.injEq] at hv
  obtain ⟨rfl, rfl, rfl⟩ := hv
  exact ⟨h1, h2⟩
end Go.Proofs.YtjkgdggkgljdoaaDoor
