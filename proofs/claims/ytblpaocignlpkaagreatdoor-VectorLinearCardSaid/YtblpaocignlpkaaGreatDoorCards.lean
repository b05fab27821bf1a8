/-
  DERIVED. GIVEN WITH THE SEED: THE CARDS: each row of YtblpaocignlpkaaGreatDoorRows.lean that lists a variable, with what it lists TIED to the program's text (the seventh form; the later family's looks); each row that meets fmt, with fmt's text TOLD by the authors' own Lean function (tested against real Go, not proved from fmt's source: count such statements apart). THE CARD IS WHAT COUNTS. Prove the row's statement (the work); the ties are given (YtblpaocignlpkaaGreatDoorTie.lean); close each card by the builder's one call (the guide's Derived/Test/ToyasCard.lean, 'card_holds'). Laid BY PROGRAM, IN A SANDBOX (cutbox-door.mjs). By AI agents, Wed Nov 11 2026. No macro, syntax, notation, axiom, sorry.
-/
import Derived.Test.YtblpaocignlpkaaGreatDoorRows
import GoSem.ClaimSeven
namespace Go.Proofs.YtblpaocignlpkaaGreatDoor
namespace Rows

/-- THE TIED CARD OF 'parlourlaw05.DualAccepts'. -/
def dualAcceptsCard : Claim7 := { stood := { row := dualAcceptsRow, standIns := [], harness := (true, "7acf4e02479d4e2b47f538952b336c920424574dd3c931c9ca1ca0386c7f2884"), looks := false }, kinds := [], alts := [], laidByText := true, laidKinds := [.data], laidTests := true, laidLooks := .later }
def DualAcceptsCardSaid : Prop := Claim7.holds Tryz.pinned (.plain (OpenSpec.ofChange dualAcceptsSpec)) dualAcceptsCard

/-- THE TIED CARD OF 'parlourlaw05.DualGaps'. -/
def dualGapsCard : Claim7 := { stood := { row := dualGapsRow, standIns := [], harness := (true, "7acf4e02479d4e2b47f538952b336c920424574dd3c931c9ca1ca0386c7f2884"), looks := false }, kinds := [], alts := [], laidByText := true, laidKinds := [.data], laidTests := true, laidLooks := .later }
def DualGapsCardSaid : Prop := Claim7.holds Tryz.pinned (.plain (OpenSpec.ofChange dualGapsSpec)) dualGapsCard

/-- THE TIED CARD OF 'parlourlaw05.DualCalls'. -/
def dualCallsCard : Claim7 := { stood := { row := dualCallsRow, standIns := [], harness := (true, "7acf4e02479d4e2b47f538952b336c920424574dd3c931c9ca1ca0386c7f2884"), looks := false }, kinds := [], alts := [], laidByText := true, laidKinds := [.data], laidTests := true, laidLooks := .later }
def DualCallsCardSaid : Prop := Claim7.holds Tryz.pinned (.plain (OpenSpec.ofChange dualCallsSpec)) dualCallsCard

/-- THE TIED CARD OF 'parlourlaw03.VectorSums'. -/
def vectorSumsCard : Claim7 := { stood := { row := vectorSumsRow, standIns := [], harness := (true, "7acf4e02479d4e2b47f538952b336c920424574dd3c931c9ca1ca0386c7f2884"), looks := false }, kinds := [], alts := [], laidByText := true, laidKinds := [.data], laidTests := true, laidLooks := .later }
def VectorSumsCardSaid : Prop := Claim7.holds Tryz.pinned (.plain (OpenSpec.ofChange vectorSumsSpec)) vectorSumsCard

/-- THE TIED CARD OF 'parlourlaw03.VectorLinear'. -/
def vectorLinearCard : Claim7 := { stood := { row := vectorLinearRow, standIns := [], harness := (true, "7acf4e02479d4e2b47f538952b336c920424574dd3c931c9ca1ca0386c7f2884"), looks := false }, kinds := [], alts := [], laidByText := true, laidKinds := [.data], laidTests := true, laidLooks := .later }
def VectorLinearCardSaid : Prop := Claim7.holds Tryz.pinned (.plain (OpenSpec.ofChange vectorLinearSpec)) vectorLinearCard

/-- THE SECOND FORM's CARD OF 'parlourlaw05.DualAccepts'. -/
def dualAcceptsUptoCard : Claim7 := { stood := { row := dualAcceptsUptoRow, standIns := [], harness := (true, "7acf4e02479d4e2b47f538952b336c920424574dd3c931c9ca1ca0386c7f2884"), looks := false }, kinds := [], alts := [], laidByText := true, laidKinds := [.data], laidTests := true, laidLooks := .later }
def DualAcceptsUptoCardSaid : Prop := Claim7.holds Tryz.pinned (.plain (OpenSpec.upto dualAcceptsSpec)) dualAcceptsUptoCard

/-- THE SECOND FORM's CARD OF 'parlourlaw05.DualGaps'. -/
def dualGapsUptoCard : Claim7 := { stood := { row := dualGapsUptoRow, standIns := [], harness := (true, "7acf4e02479d4e2b47f538952b336c920424574dd3c931c9ca1ca0386c7f2884"), looks := false }, kinds := [], alts := [], laidByText := true, laidKinds := [.data], laidTests := true, laidLooks := .later }
def DualGapsUptoCardSaid : Prop := Claim7.holds Tryz.pinned (.plain (OpenSpec.upto dualGapsSpec)) dualGapsUptoCard

/-- THE SECOND FORM's CARD OF 'parlourlaw05.DualCalls'. -/
def dualCallsUptoCard : Claim7 := { stood := { row := dualCallsUptoRow, standIns := [], harness := (true, "7acf4e02479d4e2b47f538952b336c920424574dd3c931c9ca1ca0386c7f2884"), looks := false }, kinds := [], alts := [], laidByText := true, laidKinds := [.data], laidTests := true, laidLooks := .later }
def DualCallsUptoCardSaid : Prop := Claim7.holds Tryz.pinned (.plain (OpenSpec.upto dualCallsSpec)) dualCallsUptoCard

/-- THE SECOND FORM's CARD OF 'parlourlaw03.VectorSums'. -/
def vectorSumsUptoCard : Claim7 := { stood := { row := vectorSumsUptoRow, standIns := [], harness := (true, "7acf4e02479d4e2b47f538952b336c920424574dd3c931c9ca1ca0386c7f2884"), looks := false }, kinds := [], alts := [], laidByText := true, laidKinds := [.data], laidTests := true, laidLooks := .later }
def VectorSumsUptoCardSaid : Prop := Claim7.holds Tryz.pinned (.plain (OpenSpec.upto vectorSumsSpec)) vectorSumsUptoCard

/-- THE SECOND FORM's CARD OF 'parlourlaw03.VectorLinear'. -/
def vectorLinearUptoCard : Claim7 := { stood := { row := vectorLinearUptoRow, standIns := [], harness := (true, "7acf4e02479d4e2b47f538952b336c920424574dd3c931c9ca1ca0386c7f2884"), looks := false }, kinds := [], alts := [], laidByText := true, laidKinds := [.data], laidTests := true, laidLooks := .later }
def VectorLinearUptoCardSaid : Prop := Claim7.holds Tryz.pinned (.plain (OpenSpec.upto vectorLinearSpec)) vectorLinearUptoCard
end Rows
end Go.Proofs.YtblpaocignlpkaaGreatDoor
