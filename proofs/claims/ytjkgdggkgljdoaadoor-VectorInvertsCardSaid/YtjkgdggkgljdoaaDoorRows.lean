/-
  NARROWER THAN 'FOR EVERY INPUT', by the rows' own cells (each row's printed sentence says how): DualTwice: laid · DualKnown: laid · VectorKernels: laid · VectorInverts: laid · VectorKnown: laid.
  DERIVED. THE GIVEN ROWS OF THIS SEAT. 5 by the template 'for every input the law returns true; each argument reads behind the call as it read before'; 0 by the template 'total and deterministic' (their statements: YtjkgdggkgljdoaaDoorTotals.lean).
  GIVEN WITH THE SEED: the statements are not yours to turn. If you find one false, say at which input.
  Laid BY PROGRAM, IN A SANDBOX (cutbox-rows.mjs): the forced cells as the released guide's own fill.sh prints them over the translation 3305df3e604793fd… (all of the seat's roots in one cut). By AI agents, Wed Nov 11 2026. No macro, syntax, notation, axiom, sorry.
-/
import Derived.Test.YtjkgdggkgljdoaaDoorChecked
import GoSem.Claim
import GoSem.ClaimJoined
import GoSem.ClaimMapViews
import Derived.JoinedTies
import Derived.KernelRfl
namespace Go.Proofs.YtjkgdggkgljdoaaDoor
/- THE CELL 'sum', in the pinned program and in every row, IS THE sha256 OF THE DUMP (.gsa) THAT YtjkgdggkgljdoaaDoorProg.lean LOADS. Nothing in Lean hashes anything: it is a label: what it is worth is what the hold of that sum in a sandbox is worth. -/
noncomputable def Tryd.pinned : Pinned := { name := "ytjkgdggkgljdoaadoor", sum := "3305df3e604793fd970606a3c6bf1b315de1f22824260213a20bb142863555f5", checked := Tryd.checked }
namespace Rows
def none {H : Type} : Left H := { results := [], args := [] }

/- WHAT THE LISTED PACKAGE-LEVEL VARIABLES READ AS WHEN THE CALL BEGINS. Each datum BY PROGRAM (the guide's laid-datum.mjs) off the statement by which the dump's own 'gosem.cut.vars' lays the variable. In a bare row this is a premise. The card (YtjkgdggkgljdoaaDoorCards.lean) ties it to the program's text. -/
def laid_math_bits_deBruijn64tab {H : Type} : DataW H := .agg [.lit (.int .u8 0), .lit (.int .u8 1), .lit (.int .u8 56), .lit (.int .u8 2), .lit (.int .u8 57), .lit (.int .u8 49), .lit (.int .u8 28), .lit (.int .u8 3), .lit (.int .u8 61), .lit (.int .u8 58), .lit (.int .u8 42), .lit (.int .u8 50), .lit (.int .u8 38), .lit (.int .u8 29), .lit (.int .u8 17), .lit (.int .u8 4), .lit (.int .u8 62), .lit (.int .u8 47), .lit (.int .u8 59), .lit (.int .u8 36), .lit (.int .u8 45), .lit (.int .u8 43), .lit (.int .u8 51), .lit (.int .u8 22), .lit (.int .u8 53), .lit (.int .u8 39), .lit (.int .u8 33), .lit (.int .u8 30), .lit (.int .u8 24), .lit (.int .u8 18), .lit (.int .u8 12), .lit (.int .u8 5), .lit (.int .u8 63), .lit (.int .u8 55), .lit (.int .u8 48), .lit (.int .u8 27), .lit (.int .u8 60), .lit (.int .u8 41), .lit (.int .u8 37), .lit (.int .u8 16), .lit (.int .u8 46), .lit (.int .u8 35), .lit (.int .u8 44), .lit (.int .u8 21), .lit (.int .u8 52), .lit (.int .u8 32), .lit (.int .u8 23), .lit (.int .u8 11), .lit (.int .u8 54), .lit (.int .u8 26), .lit (.int .u8 40), .lit (.int .u8 15), .lit (.int .u8 34), .lit (.int .u8 20), .lit (.int .u8 31), .lit (.int .u8 10), .lit (.int .u8 25), .lit (.int .u8 14), .lit (.int .u8 19), .lit (.int .u8 9), .lit (.int .u8 13), .lit (.int .u8 8), .lit (.int .u8 7), .lit (.int .u8 6)]

/-- 'parlourlaw05.DualTwice': WHATEVER THE INPUT: true; the input reads as it did. -/
def dualTwiceSpec : ChangeSpec := { name := "dualTwice", fn := fun _ => fun
  | [d1, d2, d3] => { results := [.lit (.bool true)], args := [d1, d2, d3] }
  | _ => none }
def dualTwiceRow : OpenClaim := { program := "ytjkgdggkgljdoaadoor", sum := "3305df3e604793fd970606a3c6bf1b315de1f22824260213a20bb142863555f5", func := "parlour/parlourlaw05.DualTwice", spec := "dualTwice", unfollowed := true, recurses := true, named := ["math/bits.deBruijn64tab"], apart := false, laid := [("math/bits.deBruijn64tab", laid_math_bits_deBruijn64tab)] }
def DualTwiceSaid : Prop := dualTwiceRow.holds Tryd.pinned (OpenSpec.ofChange dualTwiceSpec)

/-- ITS FALSE NEIGHBOUR: 'it returns false'. Refute it at one input. -/
def dualTwiceWrong : ChangeSpec := { name := "dualTwice", fn := fun _ => fun
  | [d1, d2, d3] => { results := [.lit (.bool false)], args := [d1, d2, d3] }
  | _ => none }
def DualTwiceWrongFalsely : Prop := dualTwiceRow.holds Tryd.pinned (OpenSpec.ofChange dualTwiceWrong)

/-- 'parlourlaw05.DualKnown': WHATEVER THE INPUT: true; the input reads as it did. -/
def dualKnownSpec : ChangeSpec := { name := "dualKnown", fn := fun _ => fun
  | [] => { results := [.lit (.bool true)], args := [] }
  | _ => none }
def dualKnownRow : OpenClaim := { program := "ytjkgdggkgljdoaadoor", sum := "3305df3e604793fd970606a3c6bf1b315de1f22824260213a20bb142863555f5", func := "parlour/parlourlaw05.DualKnown", spec := "dualKnown", unfollowed := true, recurses := true, named := ["math/bits.deBruijn64tab"], apart := false, laid := [("math/bits.deBruijn64tab", laid_math_bits_deBruijn64tab)] }
def DualKnownSaid : Prop := dualKnownRow.holds Tryd.pinned (OpenSpec.ofChange dualKnownSpec)

/-- ITS FALSE NEIGHBOUR: 'it returns false'. Refute it at one input. -/
def dualKnownWrong : ChangeSpec := { name := "dualKnown", fn := fun _ => fun
  | [] => { results := [.lit (.bool false)], args := [] }
  | _ => none }
def DualKnownWrongFalsely : Prop := dualKnownRow.holds Tryd.pinned (OpenSpec.ofChange dualKnownWrong)

/-- 'parlourlaw03.VectorKernels': WHATEVER THE INPUT: true; the input reads as it did. -/
def vectorKernelsSpec : ChangeSpec := { name := "vectorKernels", fn := fun _ => fun
  | [d1, d2, d3] => { results := [.lit (.bool true)], args := [d1, d2, d3] }
  | _ => none }
def vectorKernelsRow : OpenClaim := { program := "ytjkgdggkgljdoaadoor", sum := "3305df3e604793fd970606a3c6bf1b315de1f22824260213a20bb142863555f5", func := "parlour/parlourlaw03.VectorKernels", spec := "vectorKernels", unfollowed := true, recurses := true, named := ["math/bits.deBruijn64tab"], apart := false, laid := [("math/bits.deBruijn64tab", laid_math_bits_deBruijn64tab)] }
def VectorKernelsSaid : Prop := vectorKernelsRow.holds Tryd.pinned (OpenSpec.ofChange vectorKernelsSpec)

/-- ITS FALSE NEIGHBOUR: 'it returns false'. Refute it at one input. -/
def vectorKernelsWrong : ChangeSpec := { name := "vectorKernels", fn := fun _ => fun
  | [d1, d2, d3] => { results := [.lit (.bool false)], args := [d1, d2, d3] }
  | _ => none }
def VectorKernelsWrongFalsely : Prop := vectorKernelsRow.holds Tryd.pinned (OpenSpec.ofChange vectorKernelsWrong)

/-- 'parlourlaw03.VectorInverts': WHATEVER THE INPUT: true; the input reads as it did. -/
def vectorInvertsSpec : ChangeSpec := { name := "vectorInverts", fn := fun _ => fun
  | [d1, d2, d3] => { results := [.lit (.bool true)], args := [d1, d2, d3] }
  | _ => none }
def vectorInvertsRow : OpenClaim := { program := "ytjkgdggkgljdoaadoor", sum := "3305df3e604793fd970606a3c6bf1b315de1f22824260213a20bb142863555f5", func := "parlour/parlourlaw03.VectorInverts", spec := "vectorInverts", unfollowed := true, recurses := true, named := ["math/bits.deBruijn64tab"], apart := false, laid := [("math/bits.deBruijn64tab", laid_math_bits_deBruijn64tab)] }
def VectorInvertsSaid : Prop := vectorInvertsRow.holds Tryd.pinned (OpenSpec.ofChange vectorInvertsSpec)

/-- ITS FALSE NEIGHBOUR: 'it returns false'. Refute it at one input. -/
def vectorInvertsWrong : ChangeSpec := { name := "vectorInverts", fn := fun _ => fun
  | [d1, d2, d3] => { results := [.lit (.bool false)], args := [d1, d2, d3] }
  | _ => none }
def VectorInvertsWrongFalsely : Prop := vectorInvertsRow.holds Tryd.pinned (OpenSpec.ofChange vectorInvertsWrong)

/-- 'parlourlaw03.VectorKnown': WHATEVER THE INPUT: true; the input reads as it did. -/
def vectorKnownSpec : ChangeSpec := { name := "vectorKnown", fn := fun _ => fun
  | [] => { results := [.lit (.bool true)], args := [] }
  | _ => none }
def vectorKnownRow : OpenClaim := { program := "ytjkgdggkgljdoaadoor", sum := "3305df3e604793fd970606a3c6bf1b315de1f22824260213a20bb142863555f5", func := "parlour/parlourlaw03.VectorKnown", spec := "vectorKnown", unfollowed := true, recurses := true, named := ["math/bits.deBruijn64tab"], apart := false, laid := [("math/bits.deBruijn64tab", laid_math_bits_deBruijn64tab)] }
def VectorKnownSaid : Prop := vectorKnownRow.holds Tryd.pinned (OpenSpec.ofChange vectorKnownSpec)

/-- ITS FALSE NEIGHBOUR: 'it returns false'. Refute it at one input. -/
def vectorKnownWrong : ChangeSpec := { name := "vectorKnown", fn := fun _ => fun
  | [] => { results := [.lit (.bool false)], args := [] }
  | _ => none }
def VectorKnownWrongFalsely : Prop := vectorKnownRow.holds Tryd.pinned (OpenSpec.ofChange vectorKnownWrong)

/- THE SECOND FORM. 'bulk': how many values and letters a reading holds, each counted each time it is reached (what is shared counts as often as it is met; a slice's spare places count too). A statement '..UptoSaid' is the law's where the arguments, and the package variables that the reading takes, are together of bulk at most 1048576: NARROWER than '..Said'. Prove '..Said' where nothing that the law and all that it calls make is longer than what came in: it says more and counts as full. Else prove '..UptoSaid'. A law counts once. -/
mutual
def uptoBulk {H : Type} : DataW H → Nat
  | .lit (.string bytes) => bytes.length + 1
  | .lit _ => 1
  | .nil => 1
  | .ptr d => uptoBulk d + 1
  | .slice elems spare => uptoBulkAll elems + uptoBulkAll spare + 1
  | .agg parts => uptoBulkAll parts + 1
  | .iface _ d => uptoBulk d + 1
  | .map entries => uptoBulkEntries entries + 1
  | .held _ => 1
def uptoBulkAll {H : Type} : List (DataW H) → Nat
  | [] => 0
  | d :: r => uptoBulk d + uptoBulkAll r
def uptoBulkEntries {H : Type} : List (Lit × DataW H) → Nat
  | [] => 0
  | x :: r => uptoBulkEntry x + uptoBulkEntries r
def uptoBulkEntry {H : Type} : Lit × DataW H → Nat
  | (.string bytes, d) => bytes.length + uptoBulk d + 1
  | (_, d) => uptoBulk d + 1
 end
def uptoSmall : (H : Type) → List (DataW H) → Bool := fun _ ds => decide (uptoBulkAll ds ≤ 1048576)
def OpenSpec.upto (s : _root_.Go.ChangeSpec) : _root_.Go.OpenSpec := { _root_.Go.OpenSpec.ofChange s with cond := some uptoSmall }

/-- 'parlourlaw05.DualTwice', WHERE WHAT IT READS IS OF BULK AT MOST 1048576: true; the input reads as it did. -/
def dualTwiceUptoRow : OpenClaim := { program := "ytjkgdggkgljdoaadoor", sum := "3305df3e604793fd970606a3c6bf1b315de1f22824260213a20bb142863555f5", func := "parlour/parlourlaw05.DualTwice", spec := "dualTwice", unfollowed := true, recurses := true, named := ["math/bits.deBruijn64tab"], apart := false, laid := [("math/bits.deBruijn64tab", laid_math_bits_deBruijn64tab)], narrowed := true }
def DualTwiceUptoSaid : Prop := dualTwiceUptoRow.holds Tryd.pinned (OpenSpec.upto dualTwiceSpec)

/-- 'parlourlaw05.DualKnown', WHERE WHAT IT READS IS OF BULK AT MOST 1048576: true; the input reads as it did. -/
def dualKnownUptoRow : OpenClaim := { program := "ytjkgdggkgljdoaadoor", sum := "3305df3e604793fd970606a3c6bf1b315de1f22824260213a20bb142863555f5", func := "parlour/parlourlaw05.DualKnown", spec := "dualKnown", unfollowed := true, recurses := true, named := ["math/bits.deBruijn64tab"], apart := false, laid := [("math/bits.deBruijn64tab", laid_math_bits_deBruijn64tab)], narrowed := true }
def DualKnownUptoSaid : Prop := dualKnownUptoRow.holds Tryd.pinned (OpenSpec.upto dualKnownSpec)

/-- 'parlourlaw03.VectorKernels', WHERE WHAT IT READS IS OF BULK AT MOST 1048576: true; the input reads as it did. -/
def vectorKernelsUptoRow : OpenClaim := { program := "ytjkgdggkgljdoaadoor", sum := "3305df3e604793fd970606a3c6bf1b315de1f22824260213a20bb142863555f5", func := "parlour/parlourlaw03.VectorKernels", spec := "vectorKernels", unfollowed := true, recurses := true, named := ["math/bits.deBruijn64tab"], apart := false, laid := [("math/bits.deBruijn64tab", laid_math_bits_deBruijn64tab)], narrowed := true }
def VectorKernelsUptoSaid : Prop := vectorKernelsUptoRow.holds Tryd.pinned (OpenSpec.upto vectorKernelsSpec)

/-- 'parlourlaw03.VectorInverts', WHERE WHAT IT READS IS OF BULK AT MOST 1048576: true; the input reads as it did. -/
def vectorInvertsUptoRow : OpenClaim := { program := "ytjkgdggkgljdoaadoor", sum := "3305df3e604793fd970606a3c6bf1b315de1f22824260213a20bb142863555f5", func := "parlour/parlourlaw03.VectorInverts", spec := "vectorInverts", unfollowed := true, recurses := true, named := ["math/bits.deBruijn64tab"], apart := false, laid := [("math/bits.deBruijn64tab", laid_math_bits_deBruijn64tab)], narrowed := true }
def VectorInvertsUptoSaid : Prop := vectorInvertsUptoRow.holds Tryd.pinned (OpenSpec.upto vectorInvertsSpec)

/-- 'parlourlaw03.VectorKnown', WHERE WHAT IT READS IS OF BULK AT MOST 1048576: true; the input reads as it did. -/
def vectorKnownUptoRow : OpenClaim := { program := "ytjkgdggkgljdoaadoor", sum := "3305df3e604793fd970606a3c6bf1b315de1f22824260213a20bb142863555f5", func := "parlour/parlourlaw03.VectorKnown", spec := "vectorKnown", unfollowed := true, recurses := true, named := ["math/bits.deBruijn64tab"], apart := false, laid := [("math/bits.deBruijn64tab", laid_math_bits_deBruijn64tab)], narrowed := true }
def VectorKnownUptoSaid : Prop := vectorKnownUptoRow.holds Tryd.pinned (OpenSpec.upto vectorKnownSpec)

end Rows
end Go.Proofs.YtjkgdggkgljdoaaDoor
