/-
  DERIVED. GIVEN WITH THE SEED: THE CARDS: each row of YtjijceliboaeaaaGreatDoorRows.lean that lists a variable, with what it lists TIED to the program's text (the seventh form; the later family's looks); each row that meets fmt, with fmt's text TOLD by the authors' own Lean function (tested against real Go, not proved from fmt's source: count such statements apart). THE CARD IS WHAT COUNTS. Prove the row's statement (the work); the ties are given (YtjijceliboaeaaaGreatDoorTie.lean); close each card by the builder's one call (the guide's Derived/Test/ToyasCard.lean, 'card_holds'). Laid BY PROGRAM, IN A SANDBOX (cutbox-door.mjs). By AI agents, Wed Nov 11 2026. No macro, syntax, notation, axiom, sorry.
-/
import Derived.Test.YtjijceliboaeaaaGreatDoorRows
import GoSem.ClaimSeven
namespace Go.Proofs.YtjijceliboaeaaaGreatDoor
namespace Rows

/-- THE TIED CARD OF 'gussetlaw35.DofsPlaces'. -/
def dofsPlacesCard : Claim7 := { stood := { row := dofsPlacesRow, standIns := [], harness := (true, "f83bc967ec817d3ded8e63497ff8ad18f3e2e44206ec4552cfe496a4736a6a1a"), looks := false }, kinds := [], alts := [], laidByText := true, laidKinds := [.data], laidTests := true, laidLooks := .later }
def DofsPlacesCardSaid : Prop := Claim7.holds Tryz.pinned (.plain (OpenSpec.ofChange dofsPlacesSpec)) dofsPlacesCard

/-- THE SECOND FORM's CARD OF 'gussetlaw35.DofsPlaces'. -/
def dofsPlacesUptoCard : Claim7 := { stood := { row := dofsPlacesUptoRow, standIns := [], harness := (true, "f83bc967ec817d3ded8e63497ff8ad18f3e2e44206ec4552cfe496a4736a6a1a"), looks := false }, kinds := [], alts := [], laidByText := true, laidKinds := [.data], laidTests := true, laidLooks := .later }
def DofsPlacesUptoCardSaid : Prop := Claim7.holds Tryz.pinned (.plain (OpenSpec.upto dofsPlacesSpec)) dofsPlacesUptoCard
end Rows
end Go.Proofs.YtjijceliboaeaaaGreatDoor
