/-
  DERIVED. GIVEN WITH THE SEED: THE CARDS: each row of YtggnokfchfipaaaGreatDoorRows.lean that lists a variable, with what it lists TIED to the program's text (the seventh form; the later family's looks); each row that meets fmt, with fmt's text TOLD by the authors' own Lean function (tested against real Go, not proved from fmt's source: count such statements apart). THE CARD IS WHAT COUNTS. Prove the row's statement (the work); the ties are given (YtggnokfchfipaaaGreatDoorTie.lean); close each card by the builder's one call (the guide's Derived/Test/ToyasCard.lean, 'card_holds'). Laid BY PROGRAM, IN A SANDBOX (cutbox-door.mjs). By AI agents, Wed Nov 11 2026. No macro, syntax, notation, axiom, sorry.
-/
import Derived.Test.YtggnokfchfipaaaGreatDoorRows
import GoSem.ClaimSeven
namespace Go.Proofs.YtggnokfchfipaaaGreatDoor
namespace Rows

/-- THE TIED CARD OF 'tributarylaw28.FleetKnown'. -/
def fleetKnownCard : Claim7 := { stood := { row := fleetKnownRow, standIns := [], harness := (true, "eb818553694abec864fd54432fc932979215116c4ca109c874d5e01c93fff7a5"), looks := false }, kinds := [], alts := [], laidByText := true, laidKinds := [.pinned, .data], laidTests := true, laidLooks := .later }
def FleetKnownCardSaid : Prop := Claim7.holds Tryz.pinned (.plain (OpenSpec.ofChange fleetKnownSpec)) fleetKnownCard

/-- THE SECOND FORM's CARD OF 'tributarylaw28.FleetKnown'. -/
def fleetKnownUptoCard : Claim7 := { stood := { row := fleetKnownUptoRow, standIns := [], harness := (true, "eb818553694abec864fd54432fc932979215116c4ca109c874d5e01c93fff7a5"), looks := false }, kinds := [], alts := [], laidByText := true, laidKinds := [.pinned, .data], laidTests := true, laidLooks := .later }
def FleetKnownUptoCardSaid : Prop := Claim7.holds Tryz.pinned (.plain (OpenSpec.upto fleetKnownSpec)) fleetKnownUptoCard
end Rows
end Go.Proofs.YtggnokfchfipaaaGreatDoor
