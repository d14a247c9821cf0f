/-
  DERIVED. GIVEN WITH THE SEED: THE CARDS: each row of YtioonfceamgpmaaDoorRows.lean that lists a variable, with what it lists TIED to the program's text (the seventh form; the later family's looks); each row that meets fmt, with fmt's text TOLD by the authors' own Lean function (tested against real Go, not proved from fmt's source: count such statements apart). THE CARD IS WHAT COUNTS. Prove the row's statement (the work); the ties are given (YtioonfceamgpmaaDoorTie.lean); close each card by the builder's one call (the guide's Derived/Test/ToyasCard.lean, 'card_holds'). Laid BY PROGRAM, IN A SANDBOX (cutbox-door.mjs). By AI agents, Wed Nov 11 2026. No macro, syntax, notation, axiom, sorry.
-/
import Derived.Test.YtioonfceamgpmaaDoorRows
import GoSem.ClaimSeven
namespace Go.Proofs.YtioonfceamgpmaaDoor
namespace Rows

/-- THE TIED CARD OF 'shuntlaw15.CutRing'. -/
def cutRingCard : Claim7 := { stood := { row := cutRingRow, standIns := [], harness := (true, "5710d9b913cbdf48a29c90c7b197adb95220894e5ff2a2aa5735efb877ac0e82"), looks := false }, kinds := [], alts := [], laidByText := true, laidKinds := [.data, .data, .data], laidTests := true, laidLooks := .later }
def CutRingCardSaid : Prop := Claim7.holds Tryd.pinned (.plain (OpenSpec.ofChange cutRingSpec)) cutRingCard

/-- THE TIED CARD OF 'shuntlaw15.CutStuck'. -/
def cutStuckCard : Claim7 := { stood := { row := cutStuckRow, standIns := [], harness := (true, "5710d9b913cbdf48a29c90c7b197adb95220894e5ff2a2aa5735efb877ac0e82"), looks := false }, kinds := [], alts := [], laidByText := true, laidKinds := [.data, .data, .data], laidTests := true, laidLooks := .later }
def CutStuckCardSaid : Prop := Claim7.holds Tryd.pinned (.plain (OpenSpec.ofChange cutStuckSpec)) cutStuckCard

/-- THE SECOND FORM's CARD OF 'shuntlaw15.CutRing'. -/
def cutRingUptoCard : Claim7 := { stood := { row := cutRingUptoRow, standIns := [], harness := (true, "5710d9b913cbdf48a29c90c7b197adb95220894e5ff2a2aa5735efb877ac0e82"), looks := false }, kinds := [], alts := [], laidByText := true, laidKinds := [.data, .data, .data], laidTests := true, laidLooks := .later }
def CutRingUptoCardSaid : Prop := Claim7.holds Tryd.pinned (.plain (OpenSpec.upto cutRingSpec)) cutRingUptoCard

/-- THE SECOND FORM's CARD OF 'shuntlaw15.CutStuck'. -/
def cutStuckUptoCard : Claim7 := { stood := { row := cutStuckUptoRow, standIns := [], harness := (true, "5710d9b913cbdf48a29c90c7b197adb95220894e5ff2a2aa5735efb877ac0e82"), looks := false }, kinds := [], alts := [], laidByText := true, laidKinds := [.data, .data, .data], laidTests := true, laidLooks := .later }
def CutStuckUptoCardSaid : Prop := Claim7.holds Tryd.pinned (.plain (OpenSpec.upto cutStuckSpec)) cutStuckUptoCard
end Rows
end Go.Proofs.YtioonfceamgpmaaDoor
