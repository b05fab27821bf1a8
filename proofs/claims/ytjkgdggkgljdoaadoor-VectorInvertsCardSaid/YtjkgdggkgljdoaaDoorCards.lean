/-
  DERIVED. GIVEN WITH THE SEED: THE CARDS: each row of YtjkgdggkgljdoaaDoorRows.lean that lists a variable, with what it lists TIED to the program's text (the seventh form; the later family's looks); each row that meets fmt, with fmt's text TOLD by the authors' own Lean function (tested against real Go, not proved from fmt's source: count such statements apart). THE CARD IS WHAT COUNTS. Prove the row's statement (the work); the ties are given (YtjkgdggkgljdoaaDoorTie.lean); close each card by the builder's one call (the guide's Derived/Test/ToyasCard.lean, 'card_holds'). Laid BY PROGRAM, IN A SANDBOX (cutbox-door.mjs). By AI agents, Wed Nov 11 2026. No macro, syntax, notation, axiom, sorry.
-/
import Derived.Test.YtjkgdggkgljdoaaDoorRows
import GoSem.ClaimSeven
namespace Go.Proofs.YtjkgdggkgljdoaaDoor
namespace Rows

/-- THE TIED CARD OF 'parlourlaw05.DualTwice'. -/
def dualTwiceCard : Claim7 := { stood := { row := dualTwiceRow, standIns := [], harness := (true, "b9fc2cb427794ed538244cfe82430bfcea54c812c453019947018a5c0e4e801b"), looks := false }, kinds := [], alts := [], laidByText := true, laidKinds := [.data], laidTests := true, laidLooks := .later }
def DualTwiceCardSaid : Prop := Claim7.holds Tryd.pinned (.plain (OpenSpec.ofChange dualTwiceSpec)) dualTwiceCard

/-- THE TIED CARD OF 'parlourlaw05.DualKnown'. -/
def dualKnownCard : Claim7 := { stood := { row := dualKnownRow, standIns := [], harness := (true, "b9fc2cb427794ed538244cfe82430bfcea54c812c453019947018a5c0e4e801b"), looks := false }, kinds := [], alts := [], laidByText := true, laidKinds := [.data], laidTests := true, laidLooks := .later }
def DualKnownCardSaid : Prop := Claim7.holds Tryd.pinned (.plain (OpenSpec.ofChange dualKnownSpec)) dualKnownCard

/-- THE TIED CARD OF 'parlourlaw03.VectorKernels'. -/
def vectorKernelsCard : Claim7 := { stood := { row := vectorKernelsRow, standIns := [], harness := (true, "b9fc2cb427794ed538244cfe82430bfcea54c812c453019947018a5c0e4e801b"), looks := false }, kinds := [], alts := [], laidByText := true, laidKinds := [.data], laidTests := true, laidLooks := .later }
def VectorKernelsCardSaid : Prop := Claim7.holds Tryd.pinned (.plain (OpenSpec.ofChange vectorKernelsSpec)) vectorKernelsCard

/-- THE TIED CARD OF 'parlourlaw03.VectorInverts'. -/
def vectorInvertsCard : Claim7 := { stood := { row := vectorInvertsRow, standIns := [], harness := (true, "b9fc2cb427794ed538244cfe82430bfcea54c812c453019947018a5c0e4e801b"), looks := false }, kinds := [], alts := [], laidByText := true, laidKinds := [.data], laidTests := true, laidLooks := .later }
def VectorInvertsCardSaid : Prop := Claim7.holds Tryd.pinned (.plain (OpenSpec.ofChange vectorInvertsSpec)) vectorInvertsCard

/-- THE TIED CARD OF 'parlourlaw03.VectorKnown'. -/
def vectorKnownCard : Claim7 := { stood := { row := vectorKnownRow, standIns := [], harness := (true, "b9fc2cb427794ed538244cfe82430bfcea54c812c453019947018a5c0e4e801b"), looks := false }, kinds := [], alts := [], laidByText := true, laidKinds := [.data], laidTests := true, laidLooks := .later }
def VectorKnownCardSaid : Prop := Claim7.holds Tryd.pinned (.plain (OpenSpec.ofChange vectorKnownSpec)) vectorKnownCard

/-- THE SECOND FORM's CARD OF 'parlourlaw05.DualTwice'. -/
def dualTwiceUptoCard : Claim7 := { stood := { row := dualTwiceUptoRow, standIns := [], harness := (true, "b9fc2cb427794ed538244cfe82430bfcea54c812c453019947018a5c0e4e801b"), looks := false }, kinds := [], alts := [], laidByText := true, laidKinds := [.data], laidTests := true, laidLooks := .later }
def DualTwiceUptoCardSaid : Prop := Claim7.holds Tryd.pinned (.plain (OpenSpec.upto dualTwiceSpec)) dualTwiceUptoCard

/-- THE SECOND FORM's CARD OF 'parlourlaw05.DualKnown'. -/
def dualKnownUptoCard : Claim7 := { stood := { row := dualKnownUptoRow, standIns := [], harness := (true, "b9fc2cb427794ed538244cfe82430bfcea54c812c453019947018a5c0e4e801b"), looks := false }, kinds := [], alts := [], laidByText := true, laidKinds := [.data], laidTests := true, laidLooks := .later }
def DualKnownUptoCardSaid : Prop := Claim7.holds Tryd.pinned (.plain (OpenSpec.upto dualKnownSpec)) dualKnownUptoCard

/-- THE SECOND FORM's CARD OF 'parlourlaw03.VectorKernels'. -/
def vectorKernelsUptoCard : Claim7 := { stood := { row := vectorKernelsUptoRow, standIns := [], harness := (true, "b9fc2cb427794ed538244cfe82430bfcea54c812c453019947018a5c0e4e801b"), looks := false }, kinds := [], alts := [], laidByText := true, laidKinds := [.data], laidTests := true, laidLooks := .later }
def VectorKernelsUptoCardSaid : Prop := Claim7.holds Tryd.pinned (.plain (OpenSpec.upto vectorKernelsSpec)) vectorKernelsUptoCard

/-- THE SECOND FORM's CARD OF 'parlourlaw03.VectorInverts'. -/
def vectorInvertsUptoCard : Claim7 := { stood := { row := vectorInvertsUptoRow, standIns := [], harness := (true, "b9fc2cb427794ed538244cfe82430bfcea54c812c453019947018a5c0e4e801b"), looks := false }, kinds := [], alts := [], laidByText := true, laidKinds := [.data], laidTests := true, laidLooks := .later }
def VectorInvertsUptoCardSaid : Prop := Claim7.holds Tryd.pinned (.plain (OpenSpec.upto vectorInvertsSpec)) vectorInvertsUptoCard

/-- THE SECOND FORM's CARD OF 'parlourlaw03.VectorKnown'. -/
def vectorKnownUptoCard : Claim7 := { stood := { row := vectorKnownUptoRow, standIns := [], harness := (true, "b9fc2cb427794ed538244cfe82430bfcea54c812c453019947018a5c0e4e801b"), looks := false }, kinds := [], alts := [], laidByText := true, laidKinds := [.data], laidTests := true, laidLooks := .later }
def VectorKnownUptoCardSaid : Prop := Claim7.holds Tryd.pinned (.plain (OpenSpec.upto vectorKnownSpec)) vectorKnownUptoCard
end Rows
end Go.Proofs.YtjkgdggkgljdoaaDoor
