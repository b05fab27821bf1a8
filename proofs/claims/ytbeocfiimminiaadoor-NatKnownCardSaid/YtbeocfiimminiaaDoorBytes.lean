/-
  Bytes as elements of slices.
-/
import Derived.Test.YtbeocfiimminiaaDoorAwake
import Derived.Test.YtbeocfiimminiaaDoorWordsB
namespace Go.Proofs.YtbeocfiimminiaaDoor
open Go.RowKit

theorem u8_info : (Tryd.prog.info? 5).map (fun i => (i.zero, i.size, i.bytes)) = some (some (.int .u8 0), 1, 1) := by kernel_rfl
theorem elB : ElT Tryd.prog 51 5 (.int .u8 0) 1 := ⟨Tryd.underlying51, info_parts u8_info, rfl⟩

theorem slice_eq2 {g i i' a b c d : Nat} (h0 : i = i') (h : a = b) (h2 : c = d) : Value.slice (some ⟨g, i, none⟩) a c = Value.slice (some ⟨g, i', none⟩) b d := by rw [h0, h, h2]
end Go.Proofs.YtbeocfiimminiaaDoor
