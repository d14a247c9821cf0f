/-
  DERIVED. GIVEN WITH THE SEED: THE CARDS: each row of YtioonfceamgpmaaGreatDoorRows.lean that lists a variable, with what it lists TIED to the program's text (the seventh form; the later family's looks); each row that meets fmt, with fmt's text TOLD by the authors' own Lean function (tested against real Go, not proved from fmt's source: count such statements apart). THE CARD IS WHAT COUNTS. Prove the row's statement (the work); the ties are given (YtioonfceamgpmaaGreatDoorTie.lean); close each card by the builder's one call (the guide's Derived/Test/ToyasCard.lean, 'card_holds'). Laid BY PROGRAM, IN A SANDBOX (cutbox-door.mjs). By AI agents, Wed Nov 11 2026. No macro, syntax, notation, axiom, sorry.
-/
import Derived.Test.YtioonfceamgpmaaGreatDoorRows
import GoSem.ClaimSeven
namespace Go.Proofs.YtioonfceamgpmaaGreatDoor
namespace Rows

/-- THE TIED CARD OF 'shuntlaw15.CutBreaks'. -/
def cutBreaksCard : Claim7 := { stood := { row := cutBreaksRow, standIns := [], harness := (true, "ce50c432641e820da4b440ca685f22c3aca4903db934bccc84c9026c8c4a0d96"), looks := false }, kinds := [], alts := [], laidByText := true, laidKinds := [.data, .data, .data], laidTests := true, laidLooks := .later }
def CutBreaksCardSaid : Prop := Claim7.holds Tryz.pinned (.plain (OpenSpec.ofChange cutBreaksSpec)) cutBreaksCard

/-- THE SECOND FORM's CARD OF 'shuntlaw15.CutBreaks'. -/
def cutBreaksUptoCard : Claim7 := { stood := { row := cutBreaksUptoRow, standIns := [], harness := (true, "ce50c432641e820da4b440ca685f22c3aca4903db934bccc84c9026c8c4a0d96"), looks := false }, kinds := [], alts := [], laidByText := true, laidKinds := [.data, .data, .data], laidTests := true, laidLooks := .later }
def CutBreaksUptoCardSaid : Prop := Claim7.holds Tryz.pinned (.plain (OpenSpec.upto cutBreaksSpec)) cutBreaksUptoCard
end Rows
end Go.Proofs.YtioonfceamgpmaaGreatDoor
