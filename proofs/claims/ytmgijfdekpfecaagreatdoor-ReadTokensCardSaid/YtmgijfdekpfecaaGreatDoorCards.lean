/-
  DERIVED. GIVEN WITH THE SEED: THE CARDS: each row of YtmgijfdekpfecaaGreatDoorRows.lean that lists a variable, with what it lists TIED to the program's text (the seventh form; the later family's looks); each row that meets fmt, with fmt's text TOLD by the authors' own Lean function (tested against real Go, not proved from fmt's source: count such statements apart). THE CARD IS WHAT COUNTS. Prove the row's statement (the work); the ties are given (YtmgijfdekpfecaaGreatDoorTie.lean); close each card by the builder's one call (the guide's Derived/Test/ToyasCard.lean, 'card_holds'). Laid BY PROGRAM, IN A SANDBOX (cutbox-door.mjs). By AI agents, Wed Nov 11 2026. No macro, syntax, notation, axiom, sorry.
-/
import Derived.Test.YtmgijfdekpfecaaGreatDoorRows
import GoSem.ClaimSeven
namespace Go.Proofs.YtmgijfdekpfecaaGreatDoor
namespace Rows

/-- THE TIED CARD OF 'swinglelaw02.ReadTokens'. -/
def readTokensCard : Claim7 := { stood := { row := readTokensRow, standIns := [], harness := (true, "858b8ed73138d33427c93819836be25d91eacf80602c71c876412f11599ea25d"), looks := true }, kinds := [], alts := [], laidByText := true, laidKinds := [.data, .data, .data], laidTests := true, laidLooks := .later }
def ReadTokensCardSaid : Prop := Claim7.holds Tryz.pinned (.plain (OpenSpec.ofChange readTokensSpec)) readTokensCard

/-- THE SECOND FORM's CARD OF 'swinglelaw02.ReadTokens'. -/
def readTokensUptoCard : Claim7 := { stood := { row := readTokensUptoRow, standIns := [], harness := (true, "858b8ed73138d33427c93819836be25d91eacf80602c71c876412f11599ea25d"), looks := true }, kinds := [], alts := [], laidByText := true, laidKinds := [.data, .data, .data], laidTests := true, laidLooks := .later }
def ReadTokensUptoCardSaid : Prop := Claim7.holds Tryz.pinned (.plain (OpenSpec.upto readTokensSpec)) readTokensUptoCard
end Rows
end Go.Proofs.YtmgijfdekpfecaaGreatDoor
