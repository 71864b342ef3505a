/-
  DERIVED. GIVEN WITH THE SEED: THE CARDS: each row of YtpgcinjjabchcaaGreatDoorRows.lean that lists a variable, with what it lists TIED to the program's text (the seventh form; the later family's looks); each row that meets fmt, with fmt's text TOLD by the authors' own Lean function (tested against real Go, not proved from fmt's source: count such statements apart). THE CARD IS WHAT COUNTS. Prove the row's statement (the work); the ties are given (YtpgcinjjabchcaaGreatDoorTie.lean); close each card by the builder's one call (the guide's Derived/Test/ToyasCard.lean, 'card_holds'). Laid BY PROGRAM, IN A SANDBOX (cutbox-door.mjs). By AI agents, Wed Nov 11 2026. No macro, syntax, notation, axiom, sorry.
-/
import Derived.Test.YtpgcinjjabchcaaGreatDoorRows
import GoSem.ClaimSeven
namespace Go.Proofs.YtpgcinjjabchcaaGreatDoor
namespace Rows

/-- THE TIED CARD OF 'tributarylaw11.ClashKnown'. -/
def clashKnownCard : Claim7 := { stood := { row := clashKnownRow, standIns := [], harness := (true, "8bd30687d17dfc422a397f29acc95b74c1a8e91f7bad4b5d1e7936a876e328c5"), looks := false }, kinds := [], alts := [], laidByText := true, laidKinds := [.data, .pinned], laidTests := true, laidLooks := .later }
def ClashKnownCardSaid : Prop := Claim7.holds Tryz.pinned (.plain (OpenSpec.ofChange clashKnownSpec)) clashKnownCard

/-- THE SECOND FORM's CARD OF 'tributarylaw11.ClashKnown'. -/
def clashKnownUptoCard : Claim7 := { stood := { row := clashKnownUptoRow, standIns := [], harness := (true, "8bd30687d17dfc422a397f29acc95b74c1a8e91f7bad4b5d1e7936a876e328c5"), looks := false }, kinds := [], alts := [], laidByText := true, laidKinds := [.data, .pinned], laidTests := true, laidLooks := .later }
def ClashKnownUptoCardSaid : Prop := Claim7.holds Tryz.pinned (.plain (OpenSpec.upto clashKnownSpec)) clashKnownUptoCard
end Rows
end Go.Proofs.YtpgcinjjabchcaaGreatDoor
