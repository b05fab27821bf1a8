/-
  The contract of package nat's Parse.
-/
import Derived.Test.YtbeocfiimminiaaDoorTextB
import Derived.Test.YtbeocfiimminiaaDoorPlainP
namespace Go.Proofs.YtbeocfiimminiaaDoor
open Go.RowKit
set_option linter.unusedVariables false

/-- A byte of a text, in the walk's spelling, as a number of which its bounds alone are told. -/
theorem byt_atom {s : ByteArray} {k : Nat} (h : k < s.size) : ∃ y : Int, Hid (y = byt s k) ∧ 0 ≤ y ∧ y ≤ 255 ∧ ((s[k]'h).toNat : Int) = y :=
  ⟨_, rfl, by omega, by have := byt_lt s k; omega, by rw [byt_at h]⟩

theorem extract_size {s : ByteArray} {a b : Nat} (hb : b ≤ s.size) : (s.extract a b).size = b - a := by
  rw [ByteArray.size_extract]; omega
theorem extract_byt {s : ByteArray} {a b j : Nat} (hb : b ≤ s.size) (hj : j < b - a) : ((s.extract a b).data.toList.getD j 0).toNat = byt s (a + j) := by
  rw [byt_list (by rw [extract_size hb]; exact hj), ← byt_at (by rw [extract_size hb]; exact hj), ← byt_at (show a + j < s.size by omega)]
  congr 1
  exact ByteArray.getElem_extract _

/-- '[]byte(s[a:b])'. -/
theorem wp_subBytes {P : Program} {w : World} {ops : Array Oper} {rest : List Oper} {o : Oper} {a : Act} {Q : Exit → Act → World → Prop} (hg : o.guard = none) (src dst e : TypeId) (x : Operand) (hop : o.op = Op.convert src dst x)
    (hs : P.underlying src = some .string) (he : P.underlying e = some (.int .u8)) (hd : P.underlying dst = some (.slice e)) {s : ByteArray} {lo hi n : Nat} (hx : a.eval x = .string (s.extract lo hi)) (hhi : hi ≤ s.size) (hn : hi - lo = n)
    (h : ∀ g c w', Hid (g = w.heap.size) → Below w.heap.size w w' → Hid (w'.heap.size = w.heap.size + 1) → (∀ j, j < n → w'.cell? ⟨g, j, none⟩ = some (.int .u8 (byt s (lo + j) : Nat))) → wpList P ops Q rest (a.put o.dst (.slice (some ⟨g, 0, none⟩) n c)) w') : wpList P ops Q (o :: rest) a w := by
  refine wp_strBytes hg src dst e x hop hs he hd hx fun g c w' h1 h2 h3 h4 => ?_
  rw [extract_size hhi, hn] at h4 ⊢
  exact h g c w' h1 h2 h3 fun j hj => by rw [h4 j hj, extract_byt hhi (by omega)]

set_option maxHeartbeats 400000 in
theorem nparse_long {w : World} (s : ByteArray) (hs : 9216 < s.size) (hm : s.size ≤ 9223372036854775807) :
    Calls Tryd.prog 12 #[.string s] w fun e w' => e = .returned (.tuple #[.slice none 0 0, .agg #[.int .i64 4, .int .i64 9216]]) ∧ Below w.heap.size w w' := by
  go_enter Tryd.func12, Tryd.ntmps12
  go_wp2
  exact bodyPost_ret (v := .tuple #[.slice none 0 0, .agg #[.int .i64 4, .int .i64 9216]]) (by simp [results, Tryd.results12, go_sem]) rfl ⟨rfl, (Below.refl _ _).alloc (Nat.le_refl _) _⟩

set_option maxHeartbeats 400000 in
theorem nparse_byte {w : World} (s : ByteArray) (hs : s.size ≤ 9216) (i : Nat) (hi : i < s.size) (hg : Good s i) (hb : byt s i < 48 ∨ 57 < byt s i) :
    Calls Tryd.prog 12 #[.string s] w fun e w' => e = .returned (.tuple #[.slice none 0 0, .agg #[.int .i64 11, .int .i64 (i : Int)]]) ∧ Below w.heap.size w w' := by
  have Hg := Lib.hid hg
  clear hg
  go_enter Tryd.func12, Tryd.ntmps12
  go_wp2
  go_loop [16] (fun v => ∃ k : Nat, k ≤ i ∧ v = .int .i64 (k : Int)) (fun v => i - (intOf v).toNat)
  case atStart => exact ⟨0, Nat.zero_le _, rfl⟩
  case round =>
    obtain ⟨k, hk, rfl⟩ := hrel
    obtain ⟨y, hy, hy0, hy1, hyr⟩ := byt_atom (s := s) (k := k) (by omega)
    rcases Nat.lt_or_ge k i with hlt | hge
    · have h1 := Hg.out k hlt
      have hy2 : 48 ≤ y := by have := hy.out; omega
      have hy3 : y ≤ 57 := by have := hy.out; omega
      clear h1 hb
      go_wp2
      go_round
      case rel => exact ⟨k + 1, by omega, by go_num⟩
      case measure => simp [intOf]; omega
    · obtain rfl : k = i := by omega
      rcases hb with hb | hb
      · have hy2 : y < 48 := by have := hy.out; omega
        clear hb
        go_wp2
        exact bodyPost_ret (v := .tuple #[.slice none 0 0, .agg #[.int .i64 11, .int .i64 (k : Int)]]) (by simp [results, Tryd.results12, go_sem]) rfl ⟨rfl, (Below.refl _ _).alloc (Nat.le_refl _) _⟩
      · have hy2 : 57 < y := by have := hy.out; omega
        clear hb
        go_wp2
        exact bodyPost_ret (v := .tuple #[.slice none 0 0, .agg #[.int .i64 11, .int .i64 (k : Int)]]) (by simp [results, Tryd.results12, go_sem]) rfl ⟨rfl, (Below.refl _ _).alloc (Nat.le_refl _) _⟩

set_option maxHeartbeats 400000 in
theorem nparse_form {w : World} (s : ByteArray) (hs : s.size ≤ 9216) (hg : Good s s.size) (hc : s.size = 0 ∨ (1 < s.size ∧ byt s 0 = 48)) :
    Calls Tryd.prog 12 #[.string s] w fun e w' => e = .returned (.tuple #[.slice none 0 0, .agg #[.int .i64 11, .int .i64 0]]) ∧ Below w.heap.size w w' := by
  have Hg := Lib.hid hg
  clear hg
  have Hc := Lib.hid hc
  clear hc
  go_enter Tryd.func12, Tryd.ntmps12
  go_wp2
  go_loop [16] (fun v => ∃ k : Nat, k ≤ s.size ∧ v = .int .i64 (k : Int)) (fun v => s.size - (intOf v).toNat)
  case atStart => exact ⟨0, Nat.zero_le _, rfl⟩
  case round =>
    obtain ⟨k, hk, rfl⟩ := hrel
    rcases Nat.lt_or_ge k s.size with hlt | hge
    · obtain ⟨y, hy, hy0, hy1, hyr⟩ := byt_atom (s := s) (k := k) hlt
      have h1 := Hg.out k hlt
      have hy2 : 48 ≤ y := by have := hy.out; omega
      have hy3 : y ≤ 57 := by have := hy.out; omega
      clear h1
      go_wp2
      go_round
      case rel => exact ⟨k + 1, by omega, by go_num⟩
      case measure => simp [intOf]; omega
    · obtain rfl : k = s.size := by omega
      rcases Hc.out with h0 | ⟨h1, h2⟩
      · have h0a : s.size ≤ 0 := by omega
        clear h0
        go_wp2
        all_goals exact bodyPost_ret (v := .tuple #[.slice none 0 0, .agg #[.int .i64 11, .int .i64 0]]) (by simp [results, Tryd.results12, go_sem]) rfl ⟨rfl, (Below.refl _ _).alloc (Nat.le_refl _) _⟩
      · obtain ⟨y, hy, hy0, hy1, hyr⟩ := byt_atom (s := s) (k := 0) (by omega)
        have hy2 : y = 48 := by have := hy.out; omega
        subst hy2
        clear h2
        go_wp2
        all_goals exact bodyPost_ret (v := .tuple #[.slice none 0 0, .agg #[.int .i64 11, .int .i64 0]]) (by simp [results, Tryd.results12, go_sem]) rfl ⟨rfl, (Below.refl _ _).alloc (Nat.le_refl _) _⟩

end Go.Proofs.YtbeocfiimminiaaDoor
