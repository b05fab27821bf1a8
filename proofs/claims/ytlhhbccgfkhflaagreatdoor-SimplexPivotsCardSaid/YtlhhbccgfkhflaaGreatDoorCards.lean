/-
  DERIVED. GIVEN WITH THE SEED: THE CARDS: each row of YtlhhbccgfkhflaaGreatDoorRows.lean that lists a variable, with what it lists TIED to the program's text (the seventh form; the later family's looks); each row that meets fmt, with fmt's text TOLD by the authors' own Lean function (tested against real Go, not proved from fmt's source: count such statements apart). THE CARD IS WHAT COUNTS. Prove the row's statement (the work); the ties are given (YtlhhbccgfkhflaaGreatDoorTie.lean); close each card by the builder's one call (the guide's Derived/Test/ToyasCard.lean, 'card_holds'). Laid BY PROGRAM, IN A SANDBOX (cutbox-door.mjs). By AI agents, Wed Nov 11 2026. No macro, syntax, notation, axiom, sorry.
-/
import Derived.Test.YtlhhbccgfkhflaaGreatDoorRows
import GoSem.ClaimSeven
namespace Go.Proofs.YtlhhbccgfkhflaaGreatDoor
namespace Rows

/-- THE TIED CARD OF 'parlourlaw04.SimplexRuns'. -/
def simplexRunsCard : Claim7 := { stood := { row := simplexRunsRow, standIns := [], harness := (true, "915548b7780e9ed9fc4208037ac25fade106ba216114f6cf8ffbf27403c704b5"), looks := false }, kinds := [], alts := [], laidByText := true, laidKinds := [.data], laidTests := true, laidLooks := .later }
def SimplexRunsCardSaid : Prop := Claim7.holds Tryz.pinned (.plain (OpenSpec.ofChange simplexRunsSpec)) simplexRunsCard

/-- THE TIED CARD OF 'parlourlaw04.SimplexDicts'. -/
def simplexDictsCard : Claim7 := { stood := { row := simplexDictsRow, standIns := [], harness := (true, "915548b7780e9ed9fc4208037ac25fade106ba216114f6cf8ffbf27403c704b5"), looks := false }, kinds := [], alts := [], laidByText := true, laidKinds := [.data], laidTests := true, laidLooks := .later }
def SimplexDictsCardSaid : Prop := Claim7.holds Tryz.pinned (.plain (OpenSpec.ofChange simplexDictsSpec)) simplexDictsCard

/-- THE TIED CARD OF 'parlourlaw04.SimplexPivots'. -/
def simplexPivotsCard : Claim7 := { stood := { row := simplexPivotsRow, standIns := [], harness := (true, "915548b7780e9ed9fc4208037ac25fade106ba216114f6cf8ffbf27403c704b5"), looks := false }, kinds := [], alts := [], laidByText := true, laidKinds := [.data], laidTests := true, laidLooks := .later }
def SimplexPivotsCardSaid : Prop := Claim7.holds Tryz.pinned (.plain (OpenSpec.ofChange simplexPivotsSpec)) simplexPivotsCard

/-- THE TIED CARD OF 'parlourlaw04.SimplexKnown'. -/
def simplexKnownCard : Claim7 := { stood := { row := simplexKnownRow, standIns := [], harness := (true, "915548b7780e9ed9fc4208037ac25fade106ba216114f6cf8ffbf27403c704b5"), looks := false }, kinds := [], alts := [], laidByText := true, laidKinds := [.data], laidTests := true, laidLooks := .later }
def SimplexKnownCardSaid : Prop := Claim7.holds Tryz.pinned (.plain (OpenSpec.ofChange simplexKnownSpec)) simplexKnownCard

/-- THE TIED CARD OF 'parlourlaw05.DualWeak'. -/
def dualWeakCard : Claim7 := { stood := { row := dualWeakRow, standIns := [], harness := (true, "915548b7780e9ed9fc4208037ac25fade106ba216114f6cf8ffbf27403c704b5"), looks := false }, kinds := [], alts := [], laidByText := true, laidKinds := [.data], laidTests := true, laidLooks := .later }
def DualWeakCardSaid : Prop := Claim7.holds Tryz.pinned (.plain (OpenSpec.ofChange dualWeakSpec)) dualWeakCard

/-- THE SECOND FORM's CARD OF 'parlourlaw04.SimplexRuns'. -/
def simplexRunsUptoCard : Claim7 := { stood := { row := simplexRunsUptoRow, standIns := [], harness := (true, "915548b7780e9ed9fc4208037ac25fade106ba216114f6cf8ffbf27403c704b5"), looks := false }, kinds := [], alts := [], laidByText := true, laidKinds := [.data], laidTests := true, laidLooks := .later }
def SimplexRunsUptoCardSaid : Prop := Claim7.holds Tryz.pinned (.plain (OpenSpec.upto simplexRunsSpec)) simplexRunsUptoCard

/-- THE SECOND FORM's CARD OF 'parlourlaw04.SimplexDicts'. -/
def simplexDictsUptoCard : Claim7 := { stood := { row := simplexDictsUptoRow, standIns := [], harness := (true, "915548b7780e9ed9fc4208037ac25fade106ba216114f6cf8ffbf27403c704b5"), looks := false }, kinds := [], alts := [], laidByText := true, laidKinds := [.data], laidTests := true, laidLooks := .later }
def SimplexDictsUptoCardSaid : Prop := Claim7.holds Tryz.pinned (.plain (OpenSpec.upto simplexDictsSpec)) simplexDictsUptoCard

/-- THE SECOND FORM's CARD OF 'parlourlaw04.SimplexPivots'. -/
def simplexPivotsUptoCard : Claim7 := { stood := { row := simplexPivotsUptoRow, standIns := [], harness := (true, "915548b7780e9ed9fc4208037ac25fade106ba216114f6cf8ffbf27403c704b5"), looks := false }, kinds := [], alts := [], laidByText := true, laidKinds := [.data], laidTests := true, laidLooks := .later }
def SimplexPivotsUptoCardSaid : Prop := Claim7.holds Tryz.pinned (.plain (OpenSpec.upto simplexPivotsSpec)) simplexPivotsUptoCard

/-- THE SECOND FORM's CARD OF 'parlourlaw04.SimplexKnown'. -/
def simplexKnownUptoCard : Claim7 := { stood := { row := simplexKnownUptoRow, standIns := [], harness := (true, "915548b7780e9ed9fc4208037ac25fade106ba216114f6cf8ffbf27403c704b5"), looks := false }, kinds := [], alts := [], laidByText := true, laidKinds := [.data], laidTests := true, laidLooks := .later }
def SimplexKnownUptoCardSaid : Prop := Claim7.holds Tryz.pinned (.plain (OpenSpec.upto simplexKnownSpec)) simplexKnownUptoCard

/-- THE SECOND FORM's CARD OF 'parlourlaw05.DualWeak'. -/
def dualWeakUptoCard : Claim7 := { stood := { row := dualWeakUptoRow, standIns := [], harness := (true, "915548b7780e9ed9fc4208037ac25fade106ba216114f6cf8ffbf27403c704b5"), looks := false }, kinds := [], alts := [], laidByText := true, laidKinds := [.data], laidTests := true, laidLooks := .later }
def DualWeakUptoCardSaid : Prop := Claim7.holds Tryz.pinned (.plain (OpenSpec.upto dualWeakSpec)) dualWeakUptoCard
end Rows
end Go.Proofs.YtlhhbccgfkhflaaGreatDoor
