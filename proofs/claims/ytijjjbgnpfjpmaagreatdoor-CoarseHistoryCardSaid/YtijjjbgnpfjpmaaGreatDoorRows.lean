/-
  NARROWER THAN 'FOR EVERY INPUT', by the rows' own cells (each row's printed sentence says how): SimplexRuns: laid · SimplexDicts: laid · SimplexKnown: laid · CoarseHistory: laid · CoarseGains: laid.
  DERIVED. THE GIVEN ROWS OF THIS SEAT. 5 by the template 'for every input the law returns true; each argument reads behind the call as it read before'; 0 by the template 'total and deterministic' (their statements: YtijjjbgnpfjpmaaGreatDoorTotals.lean).
  GIVEN WITH THE SEED: the statements are not yours to turn. If you find one false, say at which input.
  Laid BY PROGRAM, IN A SANDBOX (cutbox-rows.mjs): the forced cells as the released guide's own fill.sh prints them over the translation 6686c44376a3517f… (all of the seat's roots in one cut). By AI agents, Wed Nov 11 2026. No macro, syntax, notation, axiom, sorry.
-/
import Derived.Test.YtijjjbgnpfjpmaaGreatDoorChecked
import GoSem.Claim
import GoSem.ClaimJoined
import GoSem.ClaimMapViews
import Derived.JoinedTies
import Derived.KernelRfl
namespace Go.Proofs.YtijjjbgnpfjpmaaGreatDoor
/- THE CELL 'sum', in the pinned program and in every row, IS THE sha256 OF THE DUMP (.gsa) THAT YtijjjbgnpfjpmaaGreatDoorProg.lean LOADS. Nothing in Lean hashes anything: it is a label: what it is worth is what the hold of that sum in a sandbox is worth. -/
noncomputable def Tryz.pinned : Pinned := { name := "ytijjjbgnpfjpmaagreatdoor", sum := "6686c44376a3517feacdcb929eefa918f8eb1aa199406c65985f608f2446117e", checked := Tryz.checked }
namespace Rows
def none {H : Type} : Left H := { results := [], args := [] }

/- WHAT THE LISTED PACKAGE-LEVEL VARIABLES READ AS WHEN THE CALL BEGINS. Each datum BY PROGRAM (the guide's laid-datum.mjs) off the statement by which the dump's own 'gosem.cut.vars' lays the variable. In a bare row this is a premise. The card (YtijjjbgnpfjpmaaGreatDoorCards.lean) ties it to the program's text. -/
def laid_math_bits_deBruijn64tab {H : Type} : DataW H := .agg [.lit (.int .u8 0), .lit (.int .u8 1), .lit (.int .u8 56), .lit (.int .u8 2), .lit (.int .u8 57), .lit (.int .u8 49), .lit (.int .u8 28), .lit (.int .u8 3), .lit (.int .u8 61), .lit (.int .u8 58), .lit (.int .u8 42), .lit (.int .u8 50), .lit (.int .u8 38), .lit (.int .u8 29), .lit (.int .u8 17), .lit (.int .u8 4), .lit (.int .u8 62), .lit (.int .u8 47), .lit (.int .u8 59), .lit (.int .u8 36), .lit (.int .u8 45), .lit (.int .u8 43), .lit (.int .u8 51), .lit (.int .u8 22), .lit (.int .u8 53), .lit (.int .u8 39), .lit (.int .u8 33), .lit (.int .u8 30), .lit (.int .u8 24), .lit (.int .u8 18), .lit (.int .u8 12), .lit (.int .u8 5), .lit (.int .u8 63), .lit (.int .u8 55), .lit (.int .u8 48), .lit (.int .u8 27), .lit (.int .u8 60), .lit (.int .u8 41), .lit (.int .u8 37), .lit (.int .u8 16), .lit (.int .u8 46), .lit (.int .u8 35), .lit (.int .u8 44), .lit (.int .u8 21), .lit (.int .u8 52), .lit (.int .u8 32), .lit (.int .u8 23), .lit (.int .u8 11), .lit (.int .u8 54), .lit (.int .u8 26), .lit (.int .u8 40), .lit (.int .u8 15), .lit (.int .u8 34), .lit (.int .u8 20), .lit (.int .u8 31), .lit (.int .u8 10), .lit (.int .u8 25), .lit (.int .u8 14), .lit (.int .u8 19), .lit (.int .u8 9), .lit (.int .u8 13), .lit (.int .u8 8), .lit (.int .u8 7), .lit (.int .u8 6)]

/-- 'parlourlaw04.SimplexRuns': WHATEVER THE INPUT: true; the input reads as it did. -/
def simplexRunsSpec : ChangeSpec := { name := "simplexRuns", fn := fun _ => fun
  | [d] => { results := [.lit (.bool true)], args := [d] }
  | _ => none }
def simplexRunsRow : OpenClaim := { program := "ytijjjbgnpfjpmaagreatdoor", sum := "6686c44376a3517feacdcb929eefa918f8eb1aa199406c65985f608f2446117e", func := "parlour/parlourlaw04.SimplexRuns", spec := "simplexRuns", unfollowed := true, recurses := true, named := ["math/bits.deBruijn64tab"], plainKeys := false, apart := false, laid := [("math/bits.deBruijn64tab", laid_math_bits_deBruijn64tab)] }
def SimplexRunsSaid : Prop := simplexRunsRow.holds Tryz.pinned (OpenSpec.ofChange simplexRunsSpec)

/-- ITS FALSE NEIGHBOUR: 'it returns false'. Refute it at one input. -/
def simplexRunsWrong : ChangeSpec := { name := "simplexRuns", fn := fun _ => fun
  | [d] => { results := [.lit (.bool false)], args := [d] }
  | _ => none }
def SimplexRunsWrongFalsely : Prop := simplexRunsRow.holds Tryz.pinned (OpenSpec.ofChange simplexRunsWrong)

/-- 'parlourlaw04.SimplexDicts': WHATEVER THE INPUT: true; the input reads as it did. -/
def simplexDictsSpec : ChangeSpec := { name := "simplexDicts", fn := fun _ => fun
  | [d1, d2, d3] => { results := [.lit (.bool true)], args := [d1, d2, d3] }
  | _ => none }
def simplexDictsRow : OpenClaim := { program := "ytijjjbgnpfjpmaagreatdoor", sum := "6686c44376a3517feacdcb929eefa918f8eb1aa199406c65985f608f2446117e", func := "parlour/parlourlaw04.SimplexDicts", spec := "simplexDicts", unfollowed := true, recurses := true, named := ["math/bits.deBruijn64tab"], plainKeys := false, apart := false, laid := [("math/bits.deBruijn64tab", laid_math_bits_deBruijn64tab)] }
def SimplexDictsSaid : Prop := simplexDictsRow.holds Tryz.pinned (OpenSpec.ofChange simplexDictsSpec)

/-- ITS FALSE NEIGHBOUR: 'it returns false'. Refute it at one input. -/
def simplexDictsWrong : ChangeSpec := { name := "simplexDicts", fn := fun _ => fun
  | [d1, d2, d3] => { results := [.lit (.bool false)], args := [d1, d2, d3] }
  | _ => none }
def SimplexDictsWrongFalsely : Prop := simplexDictsRow.holds Tryz.pinned (OpenSpec.ofChange simplexDictsWrong)

/-- 'parlourlaw04.SimplexKnown': WHATEVER THE INPUT: true; the input reads as it did. -/
def simplexKnownSpec : ChangeSpec := { name := "simplexKnown", fn := fun _ => fun
  | [] => { results := [.lit (.bool true)], args := [] }
  | _ => none }
def simplexKnownRow : OpenClaim := { program := "ytijjjbgnpfjpmaagreatdoor", sum := "6686c44376a3517feacdcb929eefa918f8eb1aa199406c65985f608f2446117e", func := "parlour/parlourlaw04.SimplexKnown", spec := "simplexKnown", unfollowed := true, recurses := true, named := ["math/bits.deBruijn64tab"], plainKeys := false, apart := false, laid := [("math/bits.deBruijn64tab", laid_math_bits_deBruijn64tab)] }
def SimplexKnownSaid : Prop := simplexKnownRow.holds Tryz.pinned (OpenSpec.ofChange simplexKnownSpec)

/-- ITS FALSE NEIGHBOUR: 'it returns false'. Refute it at one input. -/
def simplexKnownWrong : ChangeSpec := { name := "simplexKnown", fn := fun _ => fun
  | [] => { results := [.lit (.bool false)], args := [] }
  | _ => none }
def SimplexKnownWrongFalsely : Prop := simplexKnownRow.holds Tryz.pinned (OpenSpec.ofChange simplexKnownWrong)

/-- 'parlourlaw25.CoarseHistory': WHATEVER THE INPUT: true; the input reads as it did. -/
def coarseHistorySpec : ChangeSpec := { name := "coarseHistory", fn := fun _ => fun
  | [d1, d2, d3] => { results := [.lit (.bool true)], args := [d1, d2, d3] }
  | _ => none }
def coarseHistoryRow : OpenClaim := { program := "ytijjjbgnpfjpmaagreatdoor", sum := "6686c44376a3517feacdcb929eefa918f8eb1aa199406c65985f608f2446117e", func := "parlour/parlourlaw25.CoarseHistory", spec := "coarseHistory", inPlace := ["math/bits.Add64", "math/bits.Sub64"], unfollowed := true, recurses := true, named := ["math/bits.deBruijn64tab", "math/bits.divideError", "math/bits.overflowError"], plainKeys := false, apart := false, laid := [("math/bits.deBruijn64tab", laid_math_bits_deBruijn64tab)] }
def CoarseHistorySaid : Prop := coarseHistoryRow.holds Tryz.pinned (OpenSpec.ofChange coarseHistorySpec)

/-- ITS FALSE NEIGHBOUR: 'it returns false'. Refute it at one input. -/
def coarseHistoryWrong : ChangeSpec := { name := "coarseHistory", fn := fun _ => fun
  | [d1, d2, d3] => { results := [.lit (.bool false)], args := [d1, d2, d3] }
  | _ => none }
def CoarseHistoryWrongFalsely : Prop := coarseHistoryRow.holds Tryz.pinned (OpenSpec.ofChange coarseHistoryWrong)

/-- 'parlourlaw25.CoarseGains': WHATEVER THE INPUT: true; the input reads as it did. -/
def coarseGainsSpec : ChangeSpec := { name := "coarseGains", fn := fun _ => fun
  | [d1, d2, d3, d4, d5] => { results := [.lit (.bool true)], args := [d1, d2, d3, d4, d5] }
  | _ => none }
def coarseGainsRow : OpenClaim := { program := "ytijjjbgnpfjpmaagreatdoor", sum := "6686c44376a3517feacdcb929eefa918f8eb1aa199406c65985f608f2446117e", func := "parlour/parlourlaw25.CoarseGains", spec := "coarseGains", inPlace := ["math/bits.Add64", "math/bits.Sub64"], unfollowed := true, recurses := true, named := ["math/bits.deBruijn64tab", "math/bits.divideError", "math/bits.overflowError"], plainKeys := false, apart := false, laid := [("math/bits.deBruijn64tab", laid_math_bits_deBruijn64tab)] }
def CoarseGainsSaid : Prop := coarseGainsRow.holds Tryz.pinned (OpenSpec.ofChange coarseGainsSpec)

/-- ITS FALSE NEIGHBOUR: 'it returns false'. Refute it at one input. -/
def coarseGainsWrong : ChangeSpec := { name := "coarseGains", fn := fun _ => fun
  | [d1, d2, d3, d4, d5] => { results := [.lit (.bool false)], args := [d1, d2, d3, d4, d5] }
  | _ => none }
def CoarseGainsWrongFalsely : Prop := coarseGainsRow.holds Tryz.pinned (OpenSpec.ofChange coarseGainsWrong)

/- THE SECOND FORM. 'bulk': how many values and letters a reading holds, each counted each time it is reached (what is shared counts as often as it is met; a slice's spare places count too). A statement '..UptoSaid' is the law's where the arguments, and the package variables that the reading takes, are together of bulk at most 1048576: NARROWER than '..Said'. Prove '..Said' where nothing that the law and all that it calls make is longer than what came in: it says more and counts as full. Else prove '..UptoSaid'. A law counts once. -/
mutual
def uptoBulk {H : Type} : DataW H → Nat
  | .lit (.string bytes) => bytes.length + 1
  | .lit _ => 1
  | .nil => 1
  | .ptr d => uptoBulk d + 1
  | .slice elems spare => uptoBulkAll elems + uptoBulkAll spare + 1
  | .agg parts => uptoBulkAll parts + 1
  | .iface _ d => uptoBulk d + 1
  | .map entries => uptoBulkEntries entries + 1
  | .held _ => 1
def uptoBulkAll {H : Type} : List (DataW H) → Nat
  | [] => 0
  | d :: r => uptoBulk d + uptoBulkAll r
def uptoBulkEntries {H : Type} : List (Lit × DataW H) → Nat
  | [] => 0
  | x :: r => uptoBulkEntry x + uptoBulkEntries r
def uptoBulkEntry {H : Type} : Lit × DataW H → Nat
  | (.string bytes, d) => bytes.length + uptoBulk d + 1
  | (_, d) => uptoBulk d + 1
 end
def uptoSmall : (H : Type) → List (DataW H) → Bool := fun _ ds => decide (uptoBulkAll ds ≤ 1048576)
def OpenSpec.upto (s : _root_.Go.ChangeSpec) : _root_.Go.OpenSpec := { _root_.Go.OpenSpec.ofChange s with cond := some uptoSmall }

/-- 'parlourlaw04.SimplexRuns', WHERE WHAT IT READS IS OF BULK AT MOST 1048576: true; the input reads as it did. -/
def simplexRunsUptoRow : OpenClaim := { program := "ytijjjbgnpfjpmaagreatdoor", sum := "6686c44376a3517feacdcb929eefa918f8eb1aa199406c65985f608f2446117e", func := "parlour/parlourlaw04.SimplexRuns", spec := "simplexRuns", unfollowed := true, recurses := true, named := ["math/bits.deBruijn64tab"], plainKeys := false, apart := false, laid := [("math/bits.deBruijn64tab", laid_math_bits_deBruijn64tab)], narrowed := true }
def SimplexRunsUptoSaid : Prop := simplexRunsUptoRow.holds Tryz.pinned (OpenSpec.upto simplexRunsSpec)

/-- 'parlourlaw04.SimplexDicts', WHERE WHAT IT READS IS OF BULK AT MOST 1048576: true; the input reads as it did. -/
def simplexDictsUptoRow : OpenClaim := { program := "ytijjjbgnpfjpmaagreatdoor", sum := "6686c44376a3517feacdcb929eefa918f8eb1aa199406c65985f608f2446117e", func := "parlour/parlourlaw04.SimplexDicts", spec := "simplexDicts", unfollowed := true, recurses := true, named := ["math/bits.deBruijn64tab"], plainKeys := false, apart := false, laid := [("math/bits.deBruijn64tab", laid_math_bits_deBruijn64tab)], narrowed := true }
def SimplexDictsUptoSaid : Prop := simplexDictsUptoRow.holds Tryz.pinned (OpenSpec.upto simplexDictsSpec)

/-- 'parlourlaw04.SimplexKnown', WHERE WHAT IT READS IS OF BULK AT MOST 1048576: true; the input reads as it did. -/
def simplexKnownUptoRow : OpenClaim := { program := "ytijjjbgnpfjpmaagreatdoor", sum := "6686c44376a3517feacdcb929eefa918f8eb1aa199406c65985f608f2446117e", func := "parlour/parlourlaw04.SimplexKnown", spec := "simplexKnown", unfollowed := true, recurses := true, named := ["math/bits.deBruijn64tab"], plainKeys := false, apart := false, laid := [("math/bits.deBruijn64tab", laid_math_bits_deBruijn64tab)], narrowed := true }
def SimplexKnownUptoSaid : Prop := simplexKnownUptoRow.holds Tryz.pinned (OpenSpec.upto simplexKnownSpec)

/-- 'parlourlaw25.CoarseHistory', WHERE WHAT IT READS IS OF BULK AT MOST 1048576: true; the input reads as it did. -/
def coarseHistoryUptoRow : OpenClaim := { program := "ytijjjbgnpfjpmaagreatdoor", sum := "6686c44376a3517feacdcb929eefa918f8eb1aa199406c65985f608f2446117e", func := "parlour/parlourlaw25.CoarseHistory", spec := "coarseHistory", inPlace := ["math/bits.Add64", "math/bits.Sub64"], unfollowed := true, recurses := true, named := ["math/bits.deBruijn64tab", "math/bits.divideError", "math/bits.overflowError"], plainKeys := false, apart := false, laid := [("math/bits.deBruijn64tab", laid_math_bits_deBruijn64tab)], narrowed := true }
def CoarseHistoryUptoSaid : Prop := coarseHistoryUptoRow.holds Tryz.pinned (OpenSpec.upto coarseHistorySpec)

/-- 'parlourlaw25.CoarseGains', WHERE WHAT IT READS IS OF BULK AT MOST 1048576: true; the input reads as it did. -/
def coarseGainsUptoRow : OpenClaim := { program := "ytijjjbgnpfjpmaagreatdoor", sum := "6686c44376a3517feacdcb929eefa918f8eb1aa199406c65985f608f2446117e", func := "parlour/parlourlaw25.CoarseGains", spec := "coarseGains", inPlace := ["math/bits.Add64", "math/bits.Sub64"], unfollowed := true, recurses := true, named := ["math/bits.deBruijn64tab", "math/bits.divideError", "math/bits.overflowError"], plainKeys := false, apart := false, laid := [("math/bits.deBruijn64tab", laid_math_bits_deBruijn64tab)], narrowed := true }
def CoarseGainsUptoSaid : Prop := coarseGainsUptoRow.holds Tryz.pinned (OpenSpec.upto coarseGainsSpec)

end Rows
end Go.Proofs.YtijjjbgnpfjpmaaGreatDoor
