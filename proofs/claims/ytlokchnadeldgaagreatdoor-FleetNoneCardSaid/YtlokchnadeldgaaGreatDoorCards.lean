/-
  DERIVED. GIVEN WITH THE SEED: THE CARDS: each row of YtlokchnadeldgaaGreatDoorRows.lean that lists a variable, with what it lists TIED to the program's text (the seventh form; the later family's looks); each row that meets fmt, with fmt's text TOLD by the authors' own Lean function (tested against real Go, not proved from fmt's source: count such statements apart). THE CARD IS WHAT COUNTS. Prove the row's statement (the work); the ties are given (YtlokchnadeldgaaGreatDoorTie.lean); close each card by the builder's one call (the guide's Derived/Test/ToyasCard.lean, 'card_holds'). Laid BY PROGRAM, IN A SANDBOX (cutbox-door.mjs). By AI agents, Wed Nov 11 2026. No macro, syntax, notation, axiom, sorry.
-/
import Derived.Test.YtlokchnadeldgaaGreatDoorRows
import GoSem.ClaimSeven
namespace Go.Proofs.YtlokchnadeldgaaGreatDoor
namespace Rows

/-- THE TIED CARD OF 'tributarylaw26.PeerKnown'. -/
def peerKnownCard : Claim7 := { stood := { row := peerKnownRow, standIns := [], harness := (true, "59113f3dde05b85c05e84893d605cc1663d31230e4f8009a63a1b5b0602ec251"), looks := false }, kinds := [], alts := [], laidByText := true, laidKinds := [.pinned, .data], laidTests := true, laidLooks := .later }
def PeerKnownCardSaid : Prop := Claim7.holds Tryz.pinned (.plain (OpenSpec.ofChange peerKnownSpec)) peerKnownCard

/-- THE TIED CARD OF 'tributarylaw28.FleetNone'. -/
def fleetNoneCard : Claim7 := { stood := { row := fleetNoneRow, standIns := [], harness := (true, "59113f3dde05b85c05e84893d605cc1663d31230e4f8009a63a1b5b0602ec251"), looks := false }, kinds := [], alts := [], laidByText := true, laidKinds := [.pinned, .data], laidTests := true, laidLooks := .later }
def FleetNoneCardSaid : Prop := Claim7.holds Tryz.pinned (.plain (OpenSpec.ofChange fleetNoneSpec)) fleetNoneCard

/-- THE SECOND FORM's CARD OF 'tributarylaw26.PeerKnown'. -/
def peerKnownUptoCard : Claim7 := { stood := { row := peerKnownUptoRow, standIns := [], harness := (true, "59113f3dde05b85c05e84893d605cc1663d31230e4f8009a63a1b5b0602ec251"), looks := false }, kinds := [], alts := [], laidByText := true, laidKinds := [.pinned, .data], laidTests := true, laidLooks := .later }
def PeerKnownUptoCardSaid : Prop := Claim7.holds Tryz.pinned (.plain (OpenSpec.upto peerKnownSpec)) peerKnownUptoCard

/-- THE SECOND FORM's CARD OF 'tributarylaw28.FleetNone'. -/
def fleetNoneUptoCard : Claim7 := { stood := { row := fleetNoneUptoRow, standIns := [], harness := (true, "59113f3dde05b85c05e84893d605cc1663d31230e4f8009a63a1b5b0602ec251"), looks := false }, kinds := [], alts := [], laidByText := true, laidKinds := [.pinned, .data], laidTests := true, laidLooks := .later }
def FleetNoneUptoCardSaid : Prop := Claim7.holds Tryz.pinned (.plain (OpenSpec.upto fleetNoneSpec)) fleetNoneUptoCard
end Rows
end Go.Proofs.YtlokchnadeldgaaGreatDoor
