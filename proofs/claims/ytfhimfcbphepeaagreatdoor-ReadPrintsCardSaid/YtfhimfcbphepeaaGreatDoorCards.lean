/-
  DERIVED. GIVEN WITH THE SEED: THE CARDS: each row of YtfhimfcbphepeaaGreatDoorRows.lean that lists a variable, with what it lists TIED to the program's text (the seventh form; the later family's looks); each row that meets fmt, with fmt's text TOLD by the authors' own Lean function (tested against real Go, not proved from fmt's source: count such statements apart). THE CARD IS WHAT COUNTS. Prove the row's statement (the work); the ties are given (YtfhimfcbphepeaaGreatDoorTie.lean); close each card by the builder's one call (the guide's Derived/Test/ToyasCard.lean, 'card_holds'). Laid BY PROGRAM, IN A SANDBOX (cutbox-door.mjs). By AI agents, Wed Nov 11 2026. No macro, syntax, notation, axiom, sorry.
-/
import Derived.Test.YtfhimfcbphepeaaGreatDoorRows
import GoSem.ClaimSeven
namespace Go.Proofs.YtfhimfcbphepeaaGreatDoor
namespace Rows

/-- THE TIED CARD OF 'swinglelaw02.ReadTypes'. -/
def readTypesCard : Claim7 := { stood := { row := readTypesRow, standIns := [], harness := (true, "84de658d01dca045e5eeef07efe4a8c3e5e12e32758f20c97336b490e30fc8c2"), looks := true }, kinds := [], alts := [], laidByText := true, laidKinds := [.data, .data, .data], laidTests := true, laidLooks := .later }
def ReadTypesCardSaid : Prop := Claim7.holds Tryz.pinned (.plain (OpenSpec.ofChange readTypesSpec)) readTypesCard

/-- THE TIED CARD OF 'swinglelaw02.ReadPrints'. -/
def readPrintsCard : Claim7 := { stood := { row := readPrintsRow, standIns := [], harness := (true, "84de658d01dca045e5eeef07efe4a8c3e5e12e32758f20c97336b490e30fc8c2"), looks := true }, kinds := [], alts := [], laidByText := true, laidKinds := [.data, .data, .data], laidTests := true, laidLooks := .later }
def ReadPrintsCardSaid : Prop := Claim7.holds Tryz.pinned (.plain (OpenSpec.ofChange readPrintsSpec)) readPrintsCard

/-- THE SECOND FORM's CARD OF 'swinglelaw02.ReadTypes'. -/
def readTypesUptoCard : Claim7 := { stood := { row := readTypesUptoRow, standIns := [], harness := (true, "84de658d01dca045e5eeef07efe4a8c3e5e12e32758f20c97336b490e30fc8c2"), looks := true }, kinds := [], alts := [], laidByText := true, laidKinds := [.data, .data, .data], laidTests := true, laidLooks := .later }
def ReadTypesUptoCardSaid : Prop := Claim7.holds Tryz.pinned (.plain (OpenSpec.upto readTypesSpec)) readTypesUptoCard

/-- THE SECOND FORM's CARD OF 'swinglelaw02.ReadPrints'. -/
def readPrintsUptoCard : Claim7 := { stood := { row := readPrintsUptoRow, standIns := [], harness := (true, "84de658d01dca045e5eeef07efe4a8c3e5e12e32758f20c97336b490e30fc8c2"), looks := true }, kinds := [], alts := [], laidByText := true, laidKinds := [.data, .data, .data], laidTests := true, laidLooks := .later }
def ReadPrintsUptoCardSaid : Prop := Claim7.holds Tryz.pinned (.plain (OpenSpec.upto readPrintsSpec)) readPrintsUptoCard
end Rows
end Go.Proofs.YtfhimfcbphepeaaGreatDoor
