/-
  Plain facts for one digit of a long division.
-/
import Derived.Test.YtbeocfiimminiaaDoorPlain2
namespace Go.Proofs.YtbeocfiimminiaaDoor

theorem mul_mono {a b c : Int} (h : a ≤ b) (hc : 0 ≤ c) : a * c ≤ b * c := Int.mul_le_mul_of_nonneg_right h hc

/-- The estimate is not too small: U < (g + 1) * V. -/
theorem est_init {U V top v1 v2 u2 U' V' Q g : Int} (hQ : 0 < Q) (hV' : 0 ≤ V') (hU' : U' < Q) (hv2 : 0 ≤ v2) (hu2 : u2 ≤ 999999999) (hg0 : 0 ≤ g) (hg : top < (g + 1) * v1)
    (hU : U = (top * 1000000000 + u2) * Q + U') (hV : V = (v1 * 1000000000 + v2) * Q + V') : U < (g + 1) * V := by
  have h1 : U < (top * 1000000000 + u2 + 1) * Q := by rw [hU, Int.add_mul (top * 1000000000 + u2) 1 Q]; omega
  have h2 : top * 1000000000 + u2 + 1 ≤ ((g + 1) * v1) * 1000000000 := by omega
  have h3 := mul_mono h2 (Int.le_of_lt hQ)
  have h4 : (g + 1) * V = (g + 1) * v1 * 1000000000 * Q + (g + 1) * (v2 * Q + V') := by rw [hV]; grind
  have h5 : 0 ≤ (g + 1) * (v2 * Q + V') := Int.mul_nonneg (by omega) (Int.add_nonneg (Int.mul_nonneg hv2 (Int.le_of_lt hQ)) hV')
  omega
/-- Too large: by the base. -/
theorem est_base {U V g : Int} (hV : 0 ≤ V) (h : U < V * 1000000000) (hg : 1000000000 ≤ g) : U < g * V := by
  have := mul_mono hg hV
  have e : 1000000000 * V = V * 1000000000 := Int.mul_comm _ _
  omega
/-- Too large: by the second limbs. -/
theorem est_second {U V top v1 v2 u2 U' V' Q g r : Int} (hQ : 0 < Q) (hV' : 0 ≤ V') (hU' : U' < Q) (hg0 : 0 ≤ g) (ht : g * v1 + r = top) (h : r * 1000000000 + u2 < g * v2)
    (hU : U = (top * 1000000000 + u2) * Q + U') (hV : V = (v1 * 1000000000 + v2) * Q + V') : U < g * V := by
  have h1 : U < (top * 1000000000 + u2 + 1) * Q := by rw [hU, Int.add_mul (top * 1000000000 + u2) 1 Q]; omega
  have h2 : top * 1000000000 + u2 + 1 ≤ g * v1 * 1000000000 + g * v2 := by omega
  have h3 := mul_mono h2 (Int.le_of_lt hQ)
  have h4 : g * V = (g * v1 * 1000000000 + g * v2) * Q + g * V' := by rw [hV]; grind
  have h5 : 0 ≤ g * V' := Int.mul_nonneg hg0 hV'
  omega
/-- A large rest: the estimate is below the base. -/
theorem est_rest {U V top v1 v2 u2 U' V' Q g r : Int} (hQ : 0 < Q) (hV' : V' < Q) (hU' : 0 ≤ U') (hv2 : v2 ≤ 999999999) (hu2 : 0 ≤ u2) (hv1 : 1 ≤ v1) (ht : g * v1 + r = top) (hr : 1000000000 ≤ r) (hlt : U < V * 1000000000)
    (hU : U = (top * 1000000000 + u2) * Q + U') (hV : V = (v1 * 1000000000 + v2) * Q + V') : g ≤ 999999999 := by
  have h1 : V < (v1 * 1000000000 + 1000000000) * Q := by
    have h := mul_mono (show v1 * 1000000000 + v2 + 1 ≤ v1 * 1000000000 + 1000000000 by omega) (Int.le_of_lt hQ)
    rw [Int.add_mul (v1 * 1000000000 + v2) 1 Q] at h
    omega
  have h2 : top * 1000000000 * Q ≤ U := by
    rw [hU, Int.add_mul]
    have := Int.mul_nonneg hu2 (Int.le_of_lt hQ)
    omega
  have h3 : top < v1 * 1000000000 + 1000000000 := by
    rcases Int.lt_or_le top (v1 * 1000000000 + 1000000000) with h | h
    · exact h
    · have h4 := mul_mono (mul_mono h (by omega : (0 : Int) ≤ 1000000000)) (Int.le_of_lt hQ)
      have e : (v1 * 1000000000 + 1000000000) * 1000000000 * Q = (v1 * 1000000000 + 1000000000) * Q * 1000000000 := by grind
      omega
  rcases Int.lt_or_le g 1000000000 with h | h
  · omega
  · have h5 := mul_mono h (by omega : 0 ≤ v1)
    omega
/-- At the end the estimate is at most one too large. -/
theorem est_exit {U V top v1 v2 u2 U' V' Q g r : Int} (hQ : 0 < Q) (hV' : V' < Q) (hV0 : 0 ≤ V') (hU' : 0 ≤ U') (hv2 : 0 ≤ v2) (hv2' : v2 ≤ 999999999) (hu2 : 0 ≤ u2) (hv1 : 1 ≤ v1) (hg0 : 0 ≤ g) (hg : g ≤ 999999999) (ht : g * v1 + r = top)
    (h : 1000000000 ≤ r ∨ g * v2 ≤ r * 1000000000 + u2) (hU : U = (top * 1000000000 + u2) * Q + U') (hV : V = (v1 * 1000000000 + v2) * Q + V') : g * V ≤ U + V := by
  have h1 : g * v1 * 1000000000 + g * v2 ≤ top * 1000000000 + u2 := by
    rcases h with h | h
    · have := (mul_le_limb hg0 hg hv2 hv2').2
      omega
    · omega
  have h2 := mul_mono h1 (Int.le_of_lt hQ)
  have h4 : g * V = (g * v1 * 1000000000 + g * v2) * Q + g * V' := by rw [hV]; grind
  have h5 : g * V' ≤ 1000000000 * Q := by
    have a1 := mul_mono hg hV0
    have a2 := Int.mul_le_mul_of_nonneg_left (Int.le_of_lt hV') (by omega : (0 : Int) ≤ 999999999)
    omega
  have h6 : 1000000000 * Q ≤ V := by
    rw [hV]
    have a1 := mul_mono (show 1000000000 ≤ v1 * 1000000000 + v2 by omega) (Int.le_of_lt hQ)
    omega
  omega

/-- One step of subtracting a multiple. -/
theorem dig_step {M M' v : List Nat} {i : Nat} {x y g c c' r : Int} (hk : i < M'.length) (hx : x = (M.getD i 0 : Nat)) (hy : y = (v.getD i 0 : Nat)) (hr : r = x - (g * y + c) + c' * 1000000000) (hr0 : 0 ≤ r)
    (h : (val (M'.take i) : Int) = val (M.take i) - g * val (v.take i) + c * pw i) :
    (val ((M'.set i r.toNat).take (i + 1)) : Int) = val (M.take (i + 1)) - g * val (v.take (i + 1)) + c' * pw (i + 1) := by
  rw [val_set_take hk, val_take_succ' M, val_take_succ' v, pw_succ]
  have e : ((r.toNat : Nat) : Int) = r := Int.toNat_of_nonneg hr0
  simp only [Int.natCast_add, Int.natCast_mul, e, ← hy, ← hx]
  rw [h]
  subst hr
  generalize (val (M.take i) : Int) = V at *
  generalize (val (v.take i) : Int) = W at *
  generalize (pw i : Int) = P at *
  grind
/-- One step of adding back. -/
theorem back_step {M M' v : List Nat} {i : Nat} {x y c c' r : Int} (hk : i < M'.length) (hx : x = (M.getD i 0 : Nat)) (hy : y = (v.getD i 0 : Nat)) (hr : r = x + y + c - c' * 1000000000) (hr0 : 0 ≤ r)
    (h : (val (M'.take i) : Int) + c * pw i = val (M.take i) + val (v.take i)) :
    (val ((M'.set i r.toNat).take (i + 1)) : Int) + c' * pw (i + 1) = val (M.take (i + 1)) + val (v.take (i + 1)) := by
  rw [val_set_take hk, val_take_succ' M, val_take_succ' v, pw_succ]
  have e : ((r.toNat : Nat) : Int) = r := Int.toNat_of_nonneg hr0
  simp only [Int.natCast_add, Int.natCast_mul, e, ← hy, ← hx]
  subst hr
  generalize (val (M.take i) : Int) = V at *
  generalize (val (v.take i) : Int) = W at *
  generalize (pw i : Int) = P at *
  grind

theorem div_mod_of {U V g R : Nat} (h : U = g * V + R) (hR : R < V) : U / V = g ∧ U % V = R := by
  have hV : 0 < V := by omega
  subst h
  constructor
  · rw [Nat.mul_comm, Nat.mul_add_div hV, Nat.div_eq_of_lt hR, Nat.add_zero]
  · rw [Nat.mul_comm, Nat.mul_add_mod, Nat.mod_eq_of_lt hR]

/-- No borrow: the estimate is the digit. -/
theorem dig_exact {U V : Nat} {m0 m' P u c g : Int} (hU : (U : Int) = m0 + P * u) (hm : m' = m0 - g * V + c * P) (hm0 : 0 ≤ m') (hmP : m' < P) (huc : c ≤ u) (hVP : (V : Int) ≤ P) (hg0 : 0 ≤ g) (hg : (U : Int) < (g + 1) * V) :
    U / V = g.toNat ∧ ((U % V : Nat) : Int) = m' := by
  have h1 : (U : Int) - g * V = m' + (u - c) * P := by rw [hU, hm]; grind
  have h2 : (u - c) * P < P := by
    rw [Int.add_mul, Int.one_mul] at hg
    omega
  have h3 : u = c := by
    rcases Int.lt_or_le u (c + 1) with h | h
    · omega
    · have h4 := mul_mono (show 1 ≤ u - c by omega) (show 0 ≤ P by omega)
      omega
  rw [h3, Int.sub_self, Int.zero_mul, Int.add_zero] at h1
  have h5 : m' < V := by rw [Int.add_mul, Int.one_mul] at hg; omega
  have e1 : U = g.toNat * V + m'.toNat := by
    apply Int.ofNat_inj.1
    simp only [Int.natCast_add, Int.natCast_mul]
    rw [Int.toNat_of_nonneg hg0, Int.toNat_of_nonneg hm0]
    omega
  have h6 := div_mod_of e1 (by omega)
  refine ⟨h6.1, ?_⟩
  rw [h6.2]
  exact Int.toNat_of_nonneg hm0
/-- A borrow: the estimate is not 0. -/
theorem dig_pos {U V : Nat} {m0 m' P u c g : Int} (hU : (U : Int) = m0 + P * u) (hm : m' = m0 - g * V + c * P) (hmP : m' < P) (huc : u < c) (hP : 0 < P) (hg0 : 0 ≤ g) : 1 ≤ g := by
  have h1 : (U : Int) - g * V = m' + (u - c) * P := by rw [hU, hm]; grind
  have h3 : (u - c) * P ≤ -P := by
    have := mul_mono (show u - c ≤ -1 by omega) (Int.le_of_lt hP)
    omega
  rcases Int.lt_or_le g 1 with h | h
  · have : g = 0 := by omega
    subst this
    rw [Int.zero_mul] at h1
    omega
  · exact h
/-- A borrow: the estimate is one too large. -/
theorem dig_back {U V : Nat} {m0 m' m2 P u c g o : Int} (hU : (U : Int) = m0 + P * u) (hm : m' = m0 - g * V + c * P) (hmP : m' < P) (huc : u < c) (hVP : (V : Int) ≤ P) (hg0 : 0 ≤ g) (hg : g * V ≤ U + V)
    (h2 : m2 + o * P = m' + V) (hm20 : 0 ≤ m2) (hm2P : m2 < P) :
    1 ≤ g ∧ U / V = (g - 1).toNat ∧ ((U % V : Nat) : Int) = m2 := by
  have h1 : (U : Int) - g * V = m' + (u - c) * P := by rw [hU, hm]; grind
  have hP : 0 < P := by omega
  have h3 : (u - c) * P ≤ -P := by
    have := mul_mono (show u - c ≤ -1 by omega) (Int.le_of_lt hP)
    omega
  have hg1 : 1 ≤ g := by
    rcases Int.lt_or_le g 1 with h | h
    · have : g = 0 := by omega
      subst this
      rw [Int.zero_mul] at h1
      omega
    · exact h
  have h4 : (U : Int) - (g - 1) * V = m2 + (o + u - c) * P := by
    have e1 : (g - 1) * (V : Int) = g * V - V := by rw [Int.sub_mul, Int.one_mul]
    have e2 : (o + u - c) * P = o * P + (u - c) * P := by rw [← Int.add_mul]; congr 1; omega
    rw [e1, e2]; omega
  have h5 : 0 ≤ (U : Int) - (g - 1) * V := by rw [Int.sub_mul, Int.one_mul]; omega
  have h6 : (U : Int) - (g - 1) * V < V := by rw [Int.sub_mul, Int.one_mul]; omega
  have h7 : o + u - c = 0 := by
    rcases Int.lt_or_le (o + u - c) 0 with h | h
    · have := mul_mono (show o + u - c ≤ -1 by omega) (Int.le_of_lt hP)
      omega
    · rcases Int.lt_or_le (o + u - c) 1 with h' | h'
      · omega
      · have := mul_mono h' (Int.le_of_lt hP)
        omega
  rw [h7, Int.zero_mul, Int.add_zero] at h4
  have e1 : U = (g - 1).toNat * V + m2.toNat := by
    apply Int.ofNat_inj.1
    simp only [Int.natCast_add, Int.natCast_mul]
    rw [Int.toNat_of_nonneg (by omega : 0 ≤ g - 1), Int.toNat_of_nonneg hm20]
    omega
  have h8 := div_mod_of e1 (by omega)
  refine ⟨hg1, h8.1, ?_⟩
  rw [h8.2]
  exact Int.toNat_of_nonneg hm20

/-- The high limbs of a number. -/
theorem val_top {l : List Nat} {n : Nat} (h : l.length = n + 1) : val l = val (l.take n) + pw n * l.getD n 0 := by
  rw [← val_take_succ (by omega), List.take_of_length_le (by omega)]
theorem val_two {l : List Nat} {n : Nat} (h : l.length = n + 2) : val l = (l.getD (n + 1) 0 * 1000000000 + l.getD n 0) * pw n + val (l.take n) := by
  rw [← val_take_all (Nat.le_of_eq h), val_take_succ' l (n + 1), val_take_succ' l n, pw_succ]
  grind
theorem val_three {l : List Nat} {n : Nat} (h : l.length = n + 3) : val l = ((l.getD (n + 2) 0 * 1000000000 + l.getD (n + 1) 0) * 1000000000 + l.getD n 0) * pw n + val (l.take n) := by
  rw [← val_take_all (Nat.le_of_eq h), val_take_succ' l (n + 2), val_take_succ' l (n + 1), val_take_succ' l n]
  simp only [pw_succ]
  grind

theorem val_set_top {l : List Nat} {n : Nat} (h : l.length = n + 1) : val (l.set n 0) = val (l.take n) := by
  rw [val_top (n := n) (by simpa using h), List.take_set_of_le (Nat.le_refl n)]
  rw [List.getD_eq_getElem?_getD, List.getElem?_set_self (by omega)]
  simp
/-- Rows in three parts. -/
theorem set_mid {P M S : List Nat} {i x : Nat} (h : i < M.length) : (P ++ M ++ S).set (P.length + i) x = P ++ M.set i x ++ S := by
  rw [List.append_assoc, List.append_assoc, List.set_append_right _ _ (by omega), Nat.add_sub_cancel_left, List.set_append_left _ _ h]
theorem getD_mid {P M S : List Nat} {i : Nat} (h : i < M.length) : (P ++ M ++ S).getD (P.length + i) 0 = M.getD i 0 := by
  rw [List.append_assoc, List.getD_eq_getElem?_getD, List.getElem?_append_right (by omega), Nat.add_sub_cancel_left, List.getElem?_append_left h, List.getD_eq_getElem?_getD]

/-- The factor of a long division: what it is good for. -/
theorem factor_facts {b : List Nat} {m : Nat} {b1 : Int} (hb : Lo b) (hl : b.length = m + 2) (h1 : b1 = (b.getD (m + 1) 0 : Nat)) (h0 : 1 ≤ b1) (h9 : b1 ≤ 999999999) :
    1 ≤ 1000000000 / (b1 + 1) ∧ 1000000000 / (b1 + 1) ≤ 999999999 ∧ val b * (1000000000 / (b1 + 1)).toNat < pw (m + 2) := by
  have e1 : 1 ≤ 1000000000 / (b1 + 1) := (Int.le_ediv_iff_mul_le (by omega)).2 (by omega)
  have e2 : 1000000000 / (b1 + 1) ≤ 999999999 := by
    have := Int.ediv_lt_of_lt_mul (a := 1000000000) (b := 1000000000) (c := b1 + 1) (by omega) (by omega)
    omega
  refine ⟨e1, e2, ?_⟩
  have e3 : (b1 + 1) * (1000000000 / (b1 + 1)) ≤ 1000000000 := Int.mul_ediv_self_le (by omega)
  generalize hF : 1000000000 / (b1 + 1) = F at *
  obtain ⟨f, rfl⟩ := Int.eq_ofNat_of_zero_le (show 0 ≤ F by omega)
  simp only [Int.toNat_natCast]
  subst h1
  generalize hbt : b.getD (m + 1) 0 = t at *
  have h3 : (t + 1) * f ≤ 1000000000 := by
    have : (((t + 1) * f : Nat) : Int) ≤ 1000000000 := by simpa using e3
    omega
  have h4 : val b < (t + 1) * pw (m + 1) := by
    rw [val_top hl, hbt]
    have h := val_lt (lo_take hb (m + 1))
    rw [List.length_take, Nat.min_eq_left (by omega)] at h
    rw [Nat.add_mul, Nat.one_mul, Nat.mul_comm (pw (m + 1)) t]
    omega
  have h5 : val b * f < (t + 1) * pw (m + 1) * f := Nat.mul_lt_mul_of_pos_right h4 (by omega)
  have h6 : (t + 1) * pw (m + 1) * f = (t + 1) * f * pw (m + 1) := by rw [Nat.mul_right_comm]
  have h7 := Nat.mul_le_mul_right (pw (m + 1)) h3
  rw [pw_succ (m + 1)]
  omega
theorem top_pos {v : List Nat} {m : Nat} (hv : Lo v) (hl : v.length = m + 2) (h : pw (m + 1) ≤ val v) : 1 ≤ v.getD (m + 1) 0 := by
  rcases Nat.eq_zero_or_pos (v.getD (m + 1) 0) with h0 | h0
  · rw [val_top hl, h0, Nat.mul_zero, Nat.add_zero] at h
    have h2 := val_lt (lo_take hv (m + 1))
    rw [List.length_take, Nat.min_eq_left (by omega)] at h2
    omega
  · exact h0

/-- One step of a long division, said of lists. -/
theorem div_split {L : List Nat} {j n V : Nat} (hlo : Lo L) (hj : j + n + 1 ≤ L.length) (hV : V ≤ pw n) (h : val (L.drop (j + 1)) < V) :
    val ((L.drop j).take (n + 1)) < V * 1000000000 ∧ val (L.drop (j + n + 1)) = 0 ∧ val L = val (L.take j) + pw j * val ((L.drop j).take (n + 1)) := by
  have e1 : val (L.drop (j + 1)) = val ((L.drop (j + 1)).take n) + pw n * val (L.drop (j + n + 1)) := by
    have := val_split (L.drop (j + 1)) n (by simp; omega)
    rw [List.drop_drop, show j + 1 + n = j + n + 1 by omega] at this
    exact this
  have e0 : val (L.drop (j + n + 1)) = 0 := by
    rcases Nat.eq_zero_or_pos (val (L.drop (j + n + 1))) with h0 | h0
    · exact h0
    · have := Nat.mul_le_mul_left (pw n) h0
      omega
  have e2 : val (L.drop j) = val ((L.drop j).take (n + 1)) := by
    have := val_split (L.drop j) (n + 1) (by simp; omega)
    rw [List.drop_drop, show j + (n + 1) = j + n + 1 by omega, e0, Nat.mul_zero, Nat.add_zero] at this
    exact this
  refine ⟨?_, e0, ?_⟩
  · rw [← e2, val_drop (by omega)]
    have := lo_getD hlo j
    omega
  · rw [← e2]
    exact val_split L j (by omega)
theorem div_ring (P p r V v q : Nat) : P + p * r + V * (v + p * q) = P + p * (r + V * q) + V * v := by grind
theorem div_step {L M' Lq : List Nat} {j n V X : Nat} (hlo : Lo L) (hj : j + n + 1 ≤ L.length) (hV : V ≤ pw n) (hV0 : 0 < V) (h : val (L.drop (j + 1)) < V) (hM : val M' = val ((L.drop j).take (n + 1)) % V) (hMl : M'.length = n + 1)
    (hq : j < Lq.length) (hq0 : Lq.getD j 0 = 0) (hX : val L + V * val Lq = X) :
    val ((L.take j ++ M' ++ L.drop (j + n + 1)).drop j) < V ∧ val (L.take j ++ M' ++ L.drop (j + n + 1)) + V * val (Lq.set j (val ((L.drop j).take (n + 1)) / V)) = X := by
  have hs := div_split hlo hj hV h
  have hl : (L.take j).length = j := by rw [List.length_take, Nat.min_eq_left (by omega)]
  have hmod := Nat.mod_lt (val ((L.drop j).take (n + 1))) hV0
  constructor
  · rw [List.append_assoc, List.drop_append_of_le_length (by omega), List.drop_of_length_le (by omega), List.nil_append, val_append, hs.2.1, hM]
    omega
  · rw [List.append_assoc, val_append, val_append, hs.2.1, hl, Nat.mul_zero, Nat.add_zero, hM]
    have e := val_set (x := val ((L.drop j).take (n + 1)) / V) hq
    rw [hq0, Nat.mul_zero, Nat.add_zero] at e
    rw [e, ← hX, hs.2.2]
    have d := Nat.mod_add_div (val ((L.drop j).take (n + 1))) V
    rw [div_ring, d]
theorem drop_le (L : List Nat) (i : Nat) (h : i ≤ L.length) : val (L.drop i) * pw i ≤ val L := by
  rw [val_split L i h, Nat.mul_comm (pw i)]
  omega
theorem div_start {L : List Nat} {m k x y F : Nat} (hl : L.length = m + 2 + k + 1) (hL : val L = x * F) (hx : x < pw (m + 2 + k)) (hy : pw (m + 1) ≤ y) (hF : 0 < F) : val (L.drop (k + 1)) < y * F := by
  have h1 := drop_le L (k + 1) (by omega)
  rw [hL] at h1
  have h2 : x * F < pw (m + 1) * F * pw (k + 1) := by
    have := Nat.mul_lt_mul_of_pos_right hx hF
    rw [show m + 2 + k = (m + 1) + (k + 1) by omega, pw_add] at this
    rw [Nat.mul_right_comm]
    exact this
  have h3 := Nat.lt_of_mul_lt_mul_right (Nat.lt_of_le_of_lt h1 h2)
  exact Nat.lt_of_lt_of_le h3 (Nat.mul_le_mul_right F hy)
theorem div_end {a b q u f : Nat} (hf : 0 < f) (hu : u < b * f) (h : u + b * f * q = a * f) : q = a / b ∧ u / f = a % b := by
  have h1 := div_mod_of (U := a * f) (V := b * f) (g := q) (R := u) (by rw [← h, Nat.mul_comm q]; omega) hu
  rw [Nat.mul_div_mul_right _ _ hf] at h1
  rw [Nat.mul_mod_mul_right] at h1
  exact ⟨h1.1.symm, by rw [← h1.2, Nat.mul_div_cancel _ hf]⟩
end Go.Proofs.YtbeocfiimminiaaDoor
