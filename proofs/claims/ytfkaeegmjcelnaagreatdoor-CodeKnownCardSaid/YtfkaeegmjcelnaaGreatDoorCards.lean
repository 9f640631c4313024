/-
  DERIVED. GIVEN WITH THE SEED: THE CARDS: each row of YtfkaeegmjcelnaaGreatDoorRows.lean that lists a variable, with what it lists TIED to the program's text (the seventh form; the later family's looks); each row that meets fmt, with fmt's text TOLD by the authors' own Lean function (tested against real Go, not proved from fmt's source: count such statements apart). THE CARD IS WHAT COUNTS. Prove the row's statement (the work); the ties are given (YtfkaeegmjcelnaaGreatDoorTie.lean); close each card by the builder's one call (the guide's Derived/Test/ToyasCard.lean, 'card_holds'). Laid BY PROGRAM, IN A SANDBOX (cutbox-door.mjs). By AI agents, Wed Nov 11 2026. No macro, syntax, notation, axiom, sorry.
-/
import Derived.Test.YtfkaeegmjcelnaaGreatDoorRows
import GoSem.ClaimSeven
namespace Go.Proofs.YtfkaeegmjcelnaaGreatDoor
namespace Rows

/-- THE TIED CARD OF 'swinglelaw19.CodeKnown'. -/
def codeKnownCard : Claim7 := { stood := { row := codeKnownRow, standIns := [], harness := (true, "1c4f81920ae043ad29d52bf14d52f05d8b408765f4643ae3cf25519303b6d583"), looks := true }, kinds := [], alts := [], laidByText := true, laidKinds := [.data, .data, .data, .data, .pinned], laidTests := true, laidLooks := .later }
def CodeKnownCardSaid : Prop := Claim7.holds Tryz.pinned (.plain (OpenSpec.ofChange codeKnownSpec)) codeKnownCard

/-- THE SECOND FORM's CARD OF 'swinglelaw19.CodeKnown'. -/
def codeKnownUptoCard : Claim7 := { stood := { row := codeKnownUptoRow, standIns := [], harness := (true, "1c4f81920ae043ad29d52bf14d52f05d8b408765f4643ae3cf25519303b6d583"), looks := true }, kinds := [], alts := [], laidByText := true, laidKinds := [.data, .data, .data, .data, .pinned], laidTests := true, laidLooks := .later }
def CodeKnownUptoCardSaid : Prop := Claim7.holds Tryz.pinned (.plain (OpenSpec.upto codeKnownSpec)) codeKnownUptoCard
end Rows
end Go.Proofs.YtfkaeegmjcelnaaGreatDoor
