/-
  DERIVED. GIVEN WITH THE SEED: THE CARDS: each row of YtijjjbgnpfjpmaaGreatDoorRows.lean that lists a variable, with what it lists TIED to the program's text (the seventh form; the later family's looks); each row that meets fmt, with fmt's text TOLD by the authors' own Lean function (tested against real Go, not proved from fmt's source: count such statements apart). THE CARD IS WHAT COUNTS. Prove the row's statement (the work); the ties are given (YtijjjbgnpfjpmaaGreatDoorTie.lean); close each card by the builder's one call (the guide's Derived/Test/ToyasCard.lean, 'card_holds'). Laid BY PROGRAM, IN A SANDBOX (cutbox-door.mjs). By AI agents, Wed Nov 11 2026. No macro, syntax, notation, axiom, sorry.
-/
import Derived.Test.YtijjjbgnpfjpmaaGreatDoorRows
import GoSem.ClaimSeven
namespace Go.Proofs.YtijjjbgnpfjpmaaGreatDoor
namespace Rows

/-- THE TIED CARD OF 'parlourlaw04.SimplexRuns'. -/
def simplexRunsCard : Claim7 := { stood := { row := simplexRunsRow, standIns := [], harness := (true, "c393849591a115b7abc9b20827b854c80253a727dbaa48c48d9db8220f943795"), looks := false }, kinds := [], alts := [], laidByText := true, laidKinds := [.data], laidTests := true, laidLooks := .later }
def SimplexRunsCardSaid : Prop := Claim7.holds Tryz.pinned (.plain (OpenSpec.ofChange simplexRunsSpec)) simplexRunsCard

/-- THE TIED CARD OF 'parlourlaw04.SimplexDicts'. -/
def simplexDictsCard : Claim7 := { stood := { row := simplexDictsRow, standIns := [], harness := (true, "c393849591a115b7abc9b20827b854c80253a727dbaa48c48d9db8220f943795"), looks := false }, kinds := [], alts := [], laidByText := true, laidKinds := [.data], laidTests := true, laidLooks := .later }
def SimplexDictsCardSaid : Prop := Claim7.holds Tryz.pinned (.plain (OpenSpec.ofChange simplexDictsSpec)) simplexDictsCard

/-- THE TIED CARD OF 'parlourlaw04.SimplexKnown'. -/
def simplexKnownCard : Claim7 := { stood := { row := simplexKnownRow, standIns := [], harness := (true, "c393849591a115b7abc9b20827b854c80253a727dbaa48c48d9db8220f943795"), looks := false }, kinds := [], alts := [], laidByText := true, laidKinds := [.data], laidTests := true, laidLooks := .later }
def SimplexKnownCardSaid : Prop := Claim7.holds Tryz.pinned (.plain (OpenSpec.ofChange simplexKnownSpec)) simplexKnownCard

/-- THE TIED CARD OF 'parlourlaw25.CoarseHistory'. -/
def coarseHistoryCard : Claim7 := { stood := { row := coarseHistoryRow, standIns := [], harness := (true, "c393849591a115b7abc9b20827b854c80253a727dbaa48c48d9db8220f943795"), looks := false }, kinds := [], alts := [], laidByText := true, laidKinds := [.data], laidTests := true, laidLooks := .later }
def CoarseHistoryCardSaid : Prop := Claim7.holds Tryz.pinned (.plain (OpenSpec.ofChange coarseHistorySpec)) coarseHistoryCard

/-- THE TIED CARD OF 'parlourlaw25.CoarseGains'. -/
def coarseGainsCard : Claim7 := { stood := { row := coarseGainsRow, standIns := [], harness := (true, "c393849591a115b7abc9b20827b854c80253a727dbaa48c48d9db8220f943795"), looks := false }, kinds := [], alts := [], laidByText := true, laidKinds := [.data], laidTests := true, laidLooks := .later }
def CoarseGainsCardSaid : Prop := Claim7.holds Tryz.pinned (.plain (OpenSpec.ofChange coarseGainsSpec)) coarseGainsCard

/-- THE SECOND FORM's CARD OF 'parlourlaw04.SimplexRuns'. -/
def simplexRunsUptoCard : Claim7 := { stood := { row := simplexRunsUptoRow, standIns := [], harness := (true, "c393849591a115b7abc9b20827b854c80253a727dbaa48c48d9db8220f943795"), looks := false }, kinds := [], alts := [], laidByText := true, laidKinds := [.data], laidTests := true, laidLooks := .later }
def SimplexRunsUptoCardSaid : Prop := Claim7.holds Tryz.pinned (.plain (OpenSpec.upto simplexRunsSpec)) simplexRunsUptoCard

/-- THE SECOND FORM's CARD OF 'parlourlaw04.SimplexDicts'. -/
def simplexDictsUptoCard : Claim7 := { stood := { row := simplexDictsUptoRow, standIns := [], harness := (true, "c393849591a115b7abc9b20827b854c80253a727dbaa48c48d9db8220f943795"), looks := false }, kinds := [], alts := [], laidByText := true, laidKinds := [.data], laidTests := true, laidLooks := .later }
def SimplexDictsUptoCardSaid : Prop := Claim7.holds Tryz.pinned (.plain (OpenSpec.upto simplexDictsSpec)) simplexDictsUptoCard

/-- THE SECOND FORM's CARD OF 'parlourlaw04.SimplexKnown'. -/
def simplexKnownUptoCard : Claim7 := { stood := { row := simplexKnownUptoRow, standIns := [], harness := (true, "c393849591a115b7abc9b20827b854c80253a727dbaa48c48d9db8220f943795"), looks := false }, kinds := [], alts := [], laidByText := true, laidKinds := [.data], laidTests := true, laidLooks := .later }
def SimplexKnownUptoCardSaid : Prop := Claim7.holds Tryz.pinned (.plain (OpenSpec.upto simplexKnownSpec)) simplexKnownUptoCard

/-- THE SECOND FORM's CARD OF 'parlourlaw25.CoarseHistory'. -/
def coarseHistoryUptoCard : Claim7 := { stood := { row := coarseHistoryUptoRow, standIns := [], harness := (true, "c393849591a115b7abc9b20827b854c80253a727dbaa48c48d9db8220f943795"), looks := false }, kinds := [], alts := [], laidByText := true, laidKinds := [.data], laidTests := true, laidLooks := .later }
def CoarseHistoryUptoCardSaid : Prop := Claim7.holds Tryz.pinned (.plain (OpenSpec.upto coarseHistorySpec)) coarseHistoryUptoCard

/-- THE SECOND FORM's CARD OF 'parlourlaw25.CoarseGains'. -/
def coarseGainsUptoCard : Claim7 := { stood := { row := coarseGainsUptoRow, standIns := [], harness := (true, "c393849591a115b7abc9b20827b854c80253a727dbaa48c48d9db8220f943795"), looks := false }, kinds := [], alts := [], laidByText := true, laidKinds := [.data], laidTests := true, laidLooks := .later }
def CoarseGainsUptoCardSaid : Prop := Claim7.holds Tryz.pinned (.plain (OpenSpec.upto coarseGainsSpec)) coarseGainsUptoCard
end Rows
end Go.Proofs.YtijjjbgnpfjpmaaGreatDoor
