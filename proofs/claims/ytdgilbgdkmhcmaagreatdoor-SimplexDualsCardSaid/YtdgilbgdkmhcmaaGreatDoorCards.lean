/-
  DERIVED. GIVEN WITH THE SEED: THE CARDS: each row of YtdgilbgdkmhcmaaGreatDoorRows.lean that lists a variable, with what it lists TIED to the program's text (the seventh form; the later family's looks); each row that meets fmt, with fmt's text TOLD by the authors' own Lean function (tested against real Go, not proved from fmt's source: count such statements apart). THE CARD IS WHAT COUNTS. Prove the row's statement (the work); the ties are given (YtdgilbgdkmhcmaaGreatDoorTie.lean); close each card by the builder's one call (the guide's Derived/Test/ToyasCard.lean, 'card_holds'). Laid BY PROGRAM, IN A SANDBOX (cutbox-door.mjs). By AI agents, Wed Nov 11 2026. No macro, syntax, notation, axiom, sorry.
-/
import Derived.Test.YtdgilbgdkmhcmaaGreatDoorRows
import GoSem.ClaimSeven
namespace Go.Proofs.YtdgilbgdkmhcmaaGreatDoor
namespace Rows

/-- THE TIED CARD OF 'parlourlaw04.SimplexProves'. -/
def simplexProvesCard : Claim7 := { stood := { row := simplexProvesRow, standIns := [], harness := (true, "a7b89d892e2053971b56ee418b2bf45eaedae0aebb8620b64cbb0492e6d140a9"), looks := false }, kinds := [], alts := [], laidByText := true, laidKinds := [.data], laidTests := true, laidLooks := .later }
def SimplexProvesCardSaid : Prop := Claim7.holds Tryz.pinned (.plain (OpenSpec.ofChange simplexProvesSpec)) simplexProvesCard

/-- THE TIED CARD OF 'parlourlaw04.SimplexDuals'. -/
def simplexDualsCard : Claim7 := { stood := { row := simplexDualsRow, standIns := [], harness := (true, "a7b89d892e2053971b56ee418b2bf45eaedae0aebb8620b64cbb0492e6d140a9"), looks := false }, kinds := [], alts := [], laidByText := true, laidKinds := [.data], laidTests := true, laidLooks := .later }
def SimplexDualsCardSaid : Prop := Claim7.holds Tryz.pinned (.plain (OpenSpec.ofChange simplexDualsSpec)) simplexDualsCard

/-- THE TIED CARD OF 'parlourlaw04.SimplexRuns'. -/
def simplexRunsCard : Claim7 := { stood := { row := simplexRunsRow, standIns := [], harness := (true, "a7b89d892e2053971b56ee418b2bf45eaedae0aebb8620b64cbb0492e6d140a9"), looks := false }, kinds := [], alts := [], laidByText := true, laidKinds := [.data], laidTests := true, laidLooks := .later }
def SimplexRunsCardSaid : Prop := Claim7.holds Tryz.pinned (.plain (OpenSpec.ofChange simplexRunsSpec)) simplexRunsCard

/-- THE TIED CARD OF 'parlourlaw04.SimplexDicts'. -/
def simplexDictsCard : Claim7 := { stood := { row := simplexDictsRow, standIns := [], harness := (true, "a7b89d892e2053971b56ee418b2bf45eaedae0aebb8620b64cbb0492e6d140a9"), looks := false }, kinds := [], alts := [], laidByText := true, laidKinds := [.data], laidTests := true, laidLooks := .later }
def SimplexDictsCardSaid : Prop := Claim7.holds Tryz.pinned (.plain (OpenSpec.ofChange simplexDictsSpec)) simplexDictsCard

/-- THE TIED CARD OF 'parlourlaw04.SimplexPivots'. -/
def simplexPivotsCard : Claim7 := { stood := { row := simplexPivotsRow, standIns := [], harness := (true, "a7b89d892e2053971b56ee418b2bf45eaedae0aebb8620b64cbb0492e6d140a9"), looks := false }, kinds := [], alts := [], laidByText := true, laidKinds := [.data], laidTests := true, laidLooks := .later }
def SimplexPivotsCardSaid : Prop := Claim7.holds Tryz.pinned (.plain (OpenSpec.ofChange simplexPivotsSpec)) simplexPivotsCard

/-- THE TIED CARD OF 'parlourlaw04.SimplexKnown'. -/
def simplexKnownCard : Claim7 := { stood := { row := simplexKnownRow, standIns := [], harness := (true, "a7b89d892e2053971b56ee418b2bf45eaedae0aebb8620b64cbb0492e6d140a9"), looks := false }, kinds := [], alts := [], laidByText := true, laidKinds := [.data], laidTests := true, laidLooks := .later }
def SimplexKnownCardSaid : Prop := Claim7.holds Tryz.pinned (.plain (OpenSpec.ofChange simplexKnownSpec)) simplexKnownCard

/-- THE TIED CARD OF 'parlourlaw05.DualWeak'. -/
def dualWeakCard : Claim7 := { stood := { row := dualWeakRow, standIns := [], harness := (true, "a7b89d892e2053971b56ee418b2bf45eaedae0aebb8620b64cbb0492e6d140a9"), looks := false }, kinds := [], alts := [], laidByText := true, laidKinds := [.data], laidTests := true, laidLooks := .later }
def DualWeakCardSaid : Prop := Claim7.holds Tryz.pinned (.plain (OpenSpec.ofChange dualWeakSpec)) dualWeakCard

/-- THE SECOND FORM's CARD OF 'parlourlaw04.SimplexProves'. -/
def simplexProvesUptoCard : Claim7 := { stood := { row := simplexProvesUptoRow, standIns := [], harness := (true, "a7b89d892e2053971b56ee418b2bf45eaedae0aebb8620b64cbb0492e6d140a9"), looks := false }, kinds := [], alts := [], laidByText := true, laidKinds := [.data], laidTests := true, laidLooks := .later }
def SimplexProvesUptoCardSaid : Prop := Claim7.holds Tryz.pinned (.plain (OpenSpec.upto simplexProvesSpec)) simplexProvesUptoCard

/-- THE SECOND FORM's CARD OF 'parlourlaw04.SimplexDuals'. -/
def simplexDualsUptoCard : Claim7 := { stood := { row := simplexDualsUptoRow, standIns := [], harness := (true, "a7b89d892e2053971b56ee418b2bf45eaedae0aebb8620b64cbb0492e6d140a9"), looks := false }, kinds := [], alts := [], laidByText := true, laidKinds := [.data], laidTests := true, laidLooks := .later }
def SimplexDualsUptoCardSaid : Prop := Claim7.holds Tryz.pinned (.plain (OpenSpec.upto simplexDualsSpec)) simplexDualsUptoCard

/-- THE SECOND FORM's CARD OF 'parlourlaw04.SimplexRuns'. -/
def simplexRunsUptoCard : Claim7 := { stood := { row := simplexRunsUptoRow, standIns := [], harness := (true, "a7b89d892e2053971b56ee418b2bf45eaedae0aebb8620b64cbb0492e6d140a9"), looks := false }, kinds := [], alts := [], laidByText := true, laidKinds := [.data], laidTests := true, laidLooks := .later }
def SimplexRunsUptoCardSaid : Prop := Claim7.holds Tryz.pinned (.plain (OpenSpec.upto simplexRunsSpec)) simplexRunsUptoCard

/-- THE SECOND FORM's CARD OF 'parlourlaw04.SimplexDicts'. -/
def simplexDictsUptoCard : Claim7 := { stood := { row := simplexDictsUptoRow, standIns := [], harness := (true, "a7b89d892e2053971b56ee418b2bf45eaedae0aebb8620b64cbb0492e6d140a9"), looks := false }, kinds := [], alts := [], laidByText := true, laidKinds := [.data], laidTests := true, laidLooks := .later }
def SimplexDictsUptoCardSaid : Prop := Claim7.holds Tryz.pinned (.plain (OpenSpec.upto simplexDictsSpec)) simplexDictsUptoCard

/-- THE SECOND FORM's CARD OF 'parlourlaw04.SimplexPivots'. -/
def simplexPivotsUptoCard : Claim7 := { stood := { row := simplexPivotsUptoRow, standIns := [], harness := (true, "a7b89d892e2053971b56ee418b2bf45eaedae0aebb8620b64cbb0492e6d140a9"), looks := false }, kinds := [], alts := [], laidByText := true, laidKinds := [.data], laidTests := true, laidLooks := .later }
def SimplexPivotsUptoCardSaid : Prop := Claim7.holds Tryz.pinned (.plain (OpenSpec.upto simplexPivotsSpec)) simplexPivotsUptoCard

/-- THE SECOND FORM's CARD OF 'parlourlaw04.SimplexKnown'. -/
def simplexKnownUptoCard : Claim7 := { stood := { row := simplexKnownUptoRow, standIns := [], harness := (true, "a7b89d892e2053971b56ee418b2bf45eaedae0aebb8620b64cbb0492e6d140a9"), looks := false }, kinds := [], alts := [], laidByText := true, laidKinds := [.data], laidTests := true, laidLooks := .later }
def SimplexKnownUptoCardSaid : Prop := Claim7.holds Tryz.pinned (.plain (OpenSpec.upto simplexKnownSpec)) simplexKnownUptoCard

/-- THE SECOND FORM's CARD OF 'parlourlaw05.DualWeak'. -/
def dualWeakUptoCard : Claim7 := { stood := { row := dualWeakUptoRow, standIns := [], harness := (true, "a7b89d892e2053971b56ee418b2bf45eaedae0aebb8620b64cbb0492e6d140a9"), looks := false }, kinds := [], alts := [], laidByText := true, laidKinds := [.data], laidTests := true, laidLooks := .later }
def DualWeakUptoCardSaid : Prop := Claim7.holds Tryz.pinned (.plain (OpenSpec.upto dualWeakSpec)) dualWeakUptoCard
end Rows
end Go.Proofs.YtdgilbgdkmhcmaaGreatDoor
