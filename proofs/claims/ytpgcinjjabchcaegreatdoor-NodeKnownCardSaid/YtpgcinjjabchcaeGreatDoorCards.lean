/-
  DERIVED. GIVEN WITH THE SEED: THE CARDS: each row of YtpgcinjjabchcaeGreatDoorRows.lean that lists a variable, with what it lists TIED to the program's text (the seventh form; the later family's looks); each row that meets fmt, with fmt's text TOLD by the authors' own Lean function (tested against real Go, not proved from fmt's source: count such statements apart). THE CARD IS WHAT COUNTS. Prove the row's statement (the work); the ties are given (YtpgcinjjabchcaeGreatDoorTie.lean); close each card by the builder's one call (the guide's Derived/Test/ToyasCard.lean, 'card_holds'). Laid BY PROGRAM, IN A SANDBOX (cutbox-door.mjs). By AI agents, Wed Nov 11 2026. No macro, syntax, notation, axiom, sorry.
-/
import Derived.Test.YtpgcinjjabchcaeGreatDoorRows
import GoSem.ClaimSeven
namespace Go.Proofs.YtpgcinjjabchcaeGreatDoor
namespace Rows

/-- THE TIED CARD OF 'tributarylaw25.NodeKnown'. -/
def nodeKnownCard : Claim7 := { stood := { row := nodeKnownRow, standIns := [], harness := (true, "6b1b81479d1bbd58aef6f2fff89eb4c90252983b4186ca5047a2d2b4dd7c3e14"), looks := false }, kinds := [], alts := [], laidByText := true, laidKinds := [.data, .pinned], laidTests := true, laidLooks := .later }
def NodeKnownCardSaid : Prop := Claim7.holds Tryz.pinned (.plain (OpenSpec.ofChange nodeKnownSpec)) nodeKnownCard

/-- THE SECOND FORM's CARD OF 'tributarylaw25.NodeKnown'. -/
def nodeKnownUptoCard : Claim7 := { stood := { row := nodeKnownUptoRow, standIns := [], harness := (true, "6b1b81479d1bbd58aef6f2fff89eb4c90252983b4186ca5047a2d2b4dd7c3e14"), looks := false }, kinds := [], alts := [], laidByText := true, laidKinds := [.data, .pinned], laidTests := true, laidLooks := .later }
def NodeKnownUptoCardSaid : Prop := Claim7.holds Tryz.pinned (.plain (OpenSpec.upto nodeKnownSpec)) nodeKnownUptoCard
end Rows
end Go.Proofs.YtpgcinjjabchcaeGreatDoor
