/-
  DERIVED. GIVEN WITH THE SEED: THE CARDS: each row of YtpgcinjjabchcacGreatDoorRows.lean that lists a variable, with what it lists TIED to the program's text (the seventh form; the later family's looks); each row that meets fmt, with fmt's text TOLD by the authors' own Lean function (tested against real Go, not proved from fmt's source: count such statements apart). THE CARD IS WHAT COUNTS. Prove the row's statement (the work); the ties are given (YtpgcinjjabchcacGreatDoorTie.lean); close each card by the builder's one call (the guide's Derived/Test/ToyasCard.lean, 'card_holds'). Laid BY PROGRAM, IN A SANDBOX (cutbox-door.mjs). By AI agents, Wed Nov 11 2026. No macro, syntax, notation, axiom, sorry.
-/
import Derived.Test.YtpgcinjjabchcacGreatDoorRows
import GoSem.ClaimSeven
namespace Go.Proofs.YtpgcinjjabchcacGreatDoor
namespace Rows

/-- THE TIED CARD OF 'tributarylaw20.EdgeKnown'. -/
def edgeKnownCard : Claim7 := { stood := { row := edgeKnownRow, standIns := [], harness := (true, "062559975c940542e9aba7c6ab82e928e69280349c2db8b85789185cf6158988"), looks := false }, kinds := [], alts := [], laidByText := true, laidKinds := [.data, .pinned], laidTests := true, laidLooks := .later }
def EdgeKnownCardSaid : Prop := Claim7.holds Tryz.pinned (.plain (OpenSpec.ofChange edgeKnownSpec)) edgeKnownCard

/-- THE SECOND FORM's CARD OF 'tributarylaw20.EdgeKnown'. -/
def edgeKnownUptoCard : Claim7 := { stood := { row := edgeKnownUptoRow, standIns := [], harness := (true, "062559975c940542e9aba7c6ab82e928e69280349c2db8b85789185cf6158988"), looks := false }, kinds := [], alts := [], laidByText := true, laidKinds := [.data, .pinned], laidTests := true, laidLooks := .later }
def EdgeKnownUptoCardSaid : Prop := Claim7.holds Tryz.pinned (.plain (OpenSpec.upto edgeKnownSpec)) edgeKnownUptoCard
end Rows
end Go.Proofs.YtpgcinjjabchcacGreatDoor
