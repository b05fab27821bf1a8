/-
  Plain facts for comparing, adding, subtracting numbers limb by limb.
-/
import Derived.Test.YtbeocfiimminiaaDoorPlain
namespace Go.Proofs.YtbeocfiimminiaaDoor

/-- The order of two numbers as -1, 0, 1. -/
def sgn (x y : Nat) : Int := if x < y then -1 else if x = y then 0 else 1

theorem sgn_lt {x y : Nat} (h : x < y) : sgn x y = -1 := by simp [sgn, h]
theorem sgn_eq {x y : Nat} (h : x = y) : sgn x y = 0 := by simp [sgn, h]
theorem sgn_gt {x y : Nat} (h : y < x) : sgn x y = 1 := by
  unfold sgn
  rw [if_neg (by omega), if_neg (by omega)]

theorem lim_len_of_lt {x y : Nat} (h : (lim x).length < (lim y).length) : x < y := by
  rcases Nat.lt_or_ge x y with h1 | h1
  · exact h1
  · have := lim_len_mono h1; omega

theorem val_lt_at {a b : List Nat} {k : Nat} (ha : Lo a) (_hb : Lo b) (hl : a.length = b.length) (hk : k < a.length) (hd : a.drop (k + 1) = b.drop (k + 1)) (h : a.getD k 0 < b.getD k 0) : val a < val b := by
  rw [val_split a k (by omega), val_split b k (by omega), val_drop hk, val_drop (l := b) (k := k) (by omega), hd]
  have h1 := val_lt (lo_take ha k)
  rw [List.length_take, Nat.min_eq_left (by omega)] at h1
  have h2 : a.getD k 0 + 1000000000 * val (b.drop (k + 1)) + 1 ≤ b.getD k 0 + 1000000000 * val (b.drop (k + 1)) := by omega
  have h3 := Nat.mul_le_mul_left (pw k) h2
  rw [Nat.mul_add (pw k) _ 1, Nat.mul_one] at h3
  omega

theorem drop_step {a b : List Nat} {k : Nat} (hl : a.length = b.length) (hk : k < a.length) (hd : a.drop (k + 1) = b.drop (k + 1)) (h : a.getD k 0 = b.getD k 0) : a.drop k = b.drop k := by
  rw [List.drop_eq_getElem_cons hk, List.drop_eq_getElem_cons (l := b) (i := k) (by omega), hd]
  rw [List.getD_eq_getElem?_getD, List.getD_eq_getElem?_getD, List.getElem?_eq_getElem hk, List.getElem?_eq_getElem (l := b) (i := k) (by omega)] at h
  simp only [Option.getD_some] at h
  rw [h]

theorem take_set_succ {l : List Nat} {k x : Nat} (h : k < l.length) : (l.set k x).take (k + 1) = l.take k ++ [x] := by
  rw [List.take_succ_eq_append_getElem (by simpa using h)]
  rw [List.take_set_of_le (Nat.le_refl k)]
  simp
theorem val_set_take {l : List Nat} {k x : Nat} (h : k < l.length) : val ((l.set k x).take (k + 1)) = val (l.take k) + pw k * x := by
  rw [take_set_succ h, val_append, List.length_take, Nat.min_eq_left (Nat.le_of_lt h)]
  simp [val]
theorem val_take_succ' (l : List Nat) (k : Nat) : val (l.take (k + 1)) = val (l.take k) + pw k * l.getD k 0 := by
  by_cases h : k < l.length
  · exact val_take_succ h
  · rw [List.take_of_length_le (by omega), List.take_of_length_le (by omega), List.getD_eq_getElem?_getD, List.getElem?_eq_none (by omega)]
    simp
theorem val_take_all {l : List Nat} {k : Nat} (h : l.length ≤ k) : val (l.take k) = val l := by rw [List.take_of_length_le h]
theorem getD_end {l : List Nat} {k : Nat} (h : l.length ≤ k) : l.getD k 0 = 0 := by rw [List.getD_eq_getElem?_getD, List.getElem?_eq_none h]; rfl
theorem val_nil_take (l : List Nat) : val (l.take 0) = 0 := by simp [val]

/-- One step of a subtraction. -/
theorem sub_rel {a b L : List Nat} {k : Nat} {x y bw bw' r : Int} (hk : k < L.length) (hx : x = (a.getD k 0 : Nat)) (hy : y = (b.getD k 0 : Nat)) (hr : r = x - y - bw + 1000000000 * bw') (hr0 : 0 ≤ r)
    (h : (val (L.take k) : Int) = val (a.take k) - val (b.take k) + bw * pw k) :
    (val ((L.set k r.toNat).take (k + 1)) : Int) = val (a.take (k + 1)) - val (b.take (k + 1)) + bw' * pw (k + 1) := by
  rw [val_set_take hk, val_take_succ' a, val_take_succ' b, pw_succ]
  have e : ((r.toNat : Nat) : Int) = r := Int.toNat_of_nonneg hr0
  simp only [Int.natCast_add, Int.natCast_mul, e, h, ← hx, ← hy]
  rw [hr]
  grind
/-- A subtraction's end. -/
theorem sub_end {a b L : List Nat} {n : Nat} {bw : Int} (hL : L.length = n) (ha : a.length = n) (hb : b.length ≤ n) (hLo : Lo L) (hbw : bw = 0 ∨ bw = 1) (hle : val b ≤ val a)
    (h : (val (L.take n) : Int) = val (a.take n) - val (b.take n) + bw * pw n) : val L = val a - val b := by
  rw [val_take_all (by omega), val_take_all (by omega), val_take_all hb] at h
  have h1 := val_lt hLo
  rw [hL] at h1
  rcases hbw with rfl | rfl <;> omega

/-- One limb set. -/
theorem val_set {l : List Nat} {k x : Nat} (h : k < l.length) : val (l.set k x) + pw k * l.getD k 0 = val l + pw k * x := by
  have e1 := val_split (l.set k x) (k + 1) (by simp; omega)
  have e2 := val_split l (k + 1) h
  rw [val_set_take h, List.drop_set_of_lt (by omega)] at e1
  rw [val_take_succ h] at e2
  omega
/-- A number's limbs beyond its length. -/
theorem mul_le_limb {x y : Int} (hx0 : 0 ≤ x) (hx : x ≤ 999999999) (hy0 : 0 ≤ y) (hy : y ≤ 999999999) : 0 ≤ x * y ∧ x * y ≤ 999999998000000001 := by
  refine ⟨Int.mul_nonneg hx0 hy0, ?_⟩
  have h1 := Int.mul_le_mul hx hy hy0 (by omega : (0 : Int) ≤ 999999999)
  omega
theorem mul_ring {V V0 Vn P Q x y z c t c' r T : Int} (ht : t = x * y + z + c) (hr : r = t - c' * 1000000000) (e2 : Vn + P * Q * z = V + P * Q * r) (h : V + c * (P * Q) = V0 + x * P * T) :
    Vn + c' * (1000000000 * (P * Q)) = V0 + x * P * (T + Q * y) := by
  subst ht
  subst hr
  grind
/-- One step of a row of a product. -/
theorem mul_step {L0 L b : List Nat} {i j : Nat} {x y z c t c' r : Int} (hk : i + j < L.length) (hy : y = (b.getD j 0 : Nat)) (hz : z = (L.getD (i + j) 0 : Nat)) (ht : t = x * y + z + c) (hr : r = t - c' * 1000000000) (hr0 : 0 ≤ r)
    (h : (val L : Int) + c * pw (i + j) = val L0 + x * pw i * val (b.take j)) :
    (val (L.set (i + j) r.toNat) : Int) + c' * pw (i + (j + 1)) = val L0 + x * pw i * val (b.take (j + 1)) := by
  have e := val_set (x := r.toNat) hk
  have e2 : (val (L.set (i + j) r.toNat) : Int) + pw (i + j) * z = val L + pw (i + j) * r := by
    have h3 : ((r.toNat : Nat) : Int) = r := Int.toNat_of_nonneg hr0
    rw [hz]
    have := congrArg (fun n : Nat => (n : Int)) e
    simp only [Int.natCast_add, Int.natCast_mul, h3] at this
    exact this
  rw [val_take_succ' b, ← Nat.add_assoc, pw_succ]
  have e3 : (pw (i + j) : Int) = pw i * pw j := by rw [pw_add]; simp
  rw [e3] at e2 h
  simp only [Int.natCast_add, Int.natCast_mul, ← hy, e3]
  exact mul_ring ht hr e2 h
/-- The end of a row of a product. -/
theorem mul_row {L0 L a b : List Nat} {i m : Nat} {x c : Int} (hm : b.length = m) (hk : i + m < L.length) (hx : x = (a.getD i 0 : Nat)) (hz : L.getD (i + m) 0 = 0) (hc0 : 0 ≤ c)
    (h0 : val L0 = val (a.take i) * val b) (h : (val L : Int) + c * pw (i + m) = val L0 + x * pw i * val (b.take m)) :
    val (L.set (i + m) c.toNat) = val (a.take (i + 1)) * val b := by
  have e := val_set (x := c.toNat) hk
  rw [hz, Nat.mul_zero, Nat.add_zero] at e
  rw [val_take_all (Nat.le_of_eq hm)] at h
  rw [val_take_succ' a]
  have h3 : ((c.toNat : Nat) : Int) = c := Int.toNat_of_nonneg hc0
  have e2 := congrArg (fun n : Nat => (n : Int)) e
  have e4 := congrArg (fun n : Nat => (n : Int)) h0
  simp only [Int.natCast_add, Int.natCast_mul, h3] at e2 e4
  apply Int.ofNat_inj.1
  simp only [Int.natCast_add, Int.natCast_mul, ← hx]
  grind

theorem drop_set {l : List Nat} {k x : Nat} (h : k < l.length) : val ((l.set k x).drop k) = x + 1000000000 * val (l.drop (k + 1)) := by
  rw [val_drop (by simpa using h), getD_set_eq' h, List.drop_set_of_lt (by omega)]
where
  getD_set_eq' {l : List Nat} {i x : Nat} (h : i < l.length) : (l.set i x).getD i 0 = x := by simp [List.getD_eq_getElem?_getD, h]

/-- Division by one limb: the bounds. -/
theorem short_bounds {r x b : Int} (hr0 : 0 ≤ r) (hr1 : r ≤ b - 1) (hx0 : 0 ≤ x) (hx1 : x ≤ 999999999) :
    0 ≤ (r * 1000000000 + x) / b ∧ (r * 1000000000 + x) / b ≤ 999999999 ∧ 0 ≤ (r * 1000000000 + x) % b ∧ (r * 1000000000 + x) % b ≤ b - 1 := by
  have hb : 0 < b := by omega
  refine ⟨Int.ediv_nonneg (by omega) (by omega), ?_, Int.emod_nonneg _ (by omega), ?_⟩
  · have := Int.ediv_lt_of_lt_mul (a := r * 1000000000 + x) (b := 1000000000) hb (by omega)
    omega
  · have := Int.emod_lt_of_pos (r * 1000000000 + x) hb
    omega
/-- Division by one limb: one step. -/
theorem short_step {a L : List Nat} {k : Nat} {r x b : Int} (hk : k < a.length) (hL : L.length = a.length) (hx : x = (a.getD k 0 : Nat)) (hq : 0 ≤ (r * 1000000000 + x) / b)
    (h : (val (a.drop (k + 1)) : Int) = val (L.drop (k + 1)) * b + r) :
    (val (a.drop k) : Int) = val ((L.set k ((r * 1000000000 + x) / b).toNat).drop k) * b + (r * 1000000000 + x) % b := by
  rw [val_drop hk, drop_set (by omega)]
  have e : ((((r * 1000000000 + x) / b).toNat : Nat) : Int) = (r * 1000000000 + x) / b := Int.toNat_of_nonneg hq
  have d := Int.mul_ediv_add_emod (r * 1000000000 + x) b
  simp only [Int.natCast_add, Int.natCast_mul, e, h, ← hx]
  generalize (r * 1000000000 + x) / b = q at *
  generalize (r * 1000000000 + x) % b = m at *
  grind
theorem short_end {a L : List Nat} {r b : Int} (hb : 0 < b) (hr0 : 0 ≤ r) (hr1 : r ≤ b - 1) (h : (val (a.drop 0) : Int) = val (L.drop 0) * b + r) : val L = val a / b.toNat ∧ r.toNat = val a % b.toNat := by
  simp only [List.drop_zero] at h
  obtain ⟨n, rfl⟩ := Int.eq_ofNat_of_zero_le (Int.le_of_lt hb)
  obtain ⟨m, rfl⟩ := Int.eq_ofNat_of_zero_le hr0
  simp only [Int.toNat_natCast]
  have e : val a = val L * n + m := by
    apply Int.ofNat_inj.1
    rw [h]; simp
  have hn : 0 < n := by omega
  have hm : m < n := by omega
  rw [e]
  constructor
  · rw [Nat.mul_comm, Nat.mul_add_div hn, Nat.div_eq_of_lt hm, Nat.add_zero]
  · rw [Nat.mul_comm, Nat.mul_add_mod, Nat.mod_eq_of_lt hm]
/-- Times one limb: one step. -/
theorem times_step {a L : List Nat} {k : Nat} {x y c c' r : Int} (hk : k < L.length) (hy : y = (a.getD k 0 : Nat)) (hr : r = c + y * x - c' * 1000000000) (hr0 : 0 ≤ r)
    (h : (val (L.take k) : Int) + c * pw k = val (a.take k) * x) : (val ((L.set k r.toNat).take (k + 1)) : Int) + c' * pw (k + 1) = val (a.take (k + 1)) * x := by
  rw [val_set_take hk, val_take_succ' a, pw_succ]
  have e : ((r.toNat : Nat) : Int) = r := Int.toNat_of_nonneg hr0
  simp only [Int.natCast_add, Int.natCast_mul, e, ← hy]
  subst hr
  generalize (val (L.take k) : Int) = V at *
  generalize (val (a.take k) : Int) = W at *
  generalize (pw k : Int) = P at *
  grind
end Go.Proofs.YtbeocfiimminiaaDoor
