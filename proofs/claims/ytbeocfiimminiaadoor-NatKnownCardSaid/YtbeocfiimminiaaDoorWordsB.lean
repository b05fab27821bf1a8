/-
  Words for texts: the laws on the conversions between bytes and strings.
-/
import Derived.Test.YtbeocfiimminiaaDoorWords
import Derived.Test.YtbeocfiimminiaaDoorPlainT
import Derived.Lib.ConvBytes
namespace Go.Proofs.YtbeocfiimminiaaDoor
open Go.RowKit

theorem strOfNums_cel (l : List Nat) : strOfNums (l.map fun (n : Nat) => (n : Int)) = bs l := by
  unfold strOfNums bs
  simp

/-- 'string(b)', b a slice of bytes that lies in memory. -/
theorem wp_bytesStr {P : Program} {w : World} {ops : Array Oper} {rest : List Oper} {o : Oper} {a : Act} {Q : Exit → Act → World → Prop} (hg : o.guard = none) (src dst e : TypeId) (x : Operand) (hop : o.op = Op.convert src dst x)
    (hs : P.underlying src = some (.slice e)) (he : P.underlying e = some (.int .u8)) (hd : P.underlying dst = some .string) {b off n c : Nat} {l : List Nat} (hx : a.eval x = .slice (some ⟨b, off, none⟩) n c) (hl : l.length = n)
    (hc : ∀ j, j < n → w.cell? ⟨b, off + j, none⟩ = some (.int .u8 (l.getD j 0 : Nat)))
    (h : wpList P ops Q rest (a.put o.dst (.string (bs l))) w) : wpList P ops Q (o :: rest) a w := by
  refine wpList_plain hg fun K hK => ?_
  have hr := run_convert_bytes_arg (P := P) w src e hs he b off n c (l.map fun (n : Nat) => (n : Int)) (by simpa using hl) (fun i hi => by
    rw [hc i hi]
    simp only [List.getD_eq_getElem?_getD, List.getElem?_map, Option.some.injEq, Value.int.injEq, true_and]
    rw [List.getElem?_eq_getElem (by omega)]
    rfl) dst hd
  rw [strOfNums_cel] at hr
  unfold Oper.wp
  simp [execOp, hop, hx, hr, Result.andThen]
  exact hK _ _ h

/-- '[]byte(s)'. -/
theorem wp_strBytes {P : Program} {w : World} {ops : Array Oper} {rest : List Oper} {o : Oper} {a : Act} {Q : Exit → Act → World → Prop} (hg : o.guard = none) (src dst e : TypeId) (x : Operand) (hop : o.op = Op.convert src dst x)
    (hs : P.underlying src = some .string) (he : P.underlying e = some (.int .u8)) (hd : P.underlying dst = some (.slice e)) {s : ByteArray} (hx : a.eval x = .string s)
    (h : ∀ g c w', Hid (g = w.heap.size) → Below w.heap.size w w' → Hid (w'.heap.size = w.heap.size + 1) → (∀ j, j < s.size → w'.cell? ⟨g, j, none⟩ = some (.int .u8 (s.data.toList.getD j 0).toNat)) → wpList P ops Q rest (a.put o.dst (.slice (some ⟨g, 0, none⟩) s.size c)) w') : wpList P ops Q (o :: rest) a w := by
  refine wpList_plain hg fun K hK => ?_
  have hr := Lib.run_convert_string_bytes (P := P) w src dst e s hs hd he
  unfold Oper.wp
  simp [execOp, hop, hx, hr, Result.andThen]
  exact hK _ _ (h _ _ _ rfl ⟨by simp [Lib.bytesWorld, World.freeze]; rfl, by simp [Lib.bytesWorld, World.freeze], by simp [Lib.bytesWorld, World.freeze]; rfl, by rw [Lib.bytesWorld_size]; omega, fun k hk => Lib.bytesWorld_at_old w e s k hk⟩ (Lib.bytesWorld_size w e s) (Lib.bytesWorld_cell w e s))
end Go.Proofs.YtbeocfiimminiaaDoor
