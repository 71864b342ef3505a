/-
  DERIVED. GIVEN WITH THE SEED: THE CARDS: each row of YtocangegaonfeaaGreatDoorRows.lean that lists a variable, with what it lists TIED to the program's text (the seventh form; the later family's looks); each row that meets fmt, with fmt's text TOLD by the authors' own Lean function (tested against real Go, not proved from fmt's source: count such statements apart). THE CARD IS WHAT COUNTS. Prove the row's statement (the work); the ties are given (YtocangegaonfeaaGreatDoorTie.lean); close each card by the builder's one call (the guide's Derived/Test/ToyasCard.lean, 'card_holds'). Laid BY PROGRAM, IN A SANDBOX (cutbox-door.mjs). By AI agents, Wed Nov 11 2026. No macro, syntax, notation, axiom, sorry.
-/
import Derived.Test.YtocangegaonfeaaGreatDoorRows
import GoSem.ClaimSeven
namespace Go.Proofs.YtocangegaonfeaaGreatDoor
namespace Rows

/-- THE TIED CARD OF 'tributarylaw30.MatchKnown'. -/
def matchKnownCard : Claim7 := { stood := { row := matchKnownRow, standIns := [], harness := (true, "1f7d4538d04e7c4b3199ea33eccd485c5e5c38ca8435c43d7f39ba8cde712c06"), looks := false }, kinds := [], alts := [], laidByText := true, laidKinds := [.data, .pinned], laidTests := true, laidLooks := .later }
def MatchKnownCardSaid : Prop := Claim7.holds Tryz.pinned (.plain (OpenSpec.ofChange matchKnownSpec)) matchKnownCard

/-- THE SECOND FORM's CARD OF 'tributarylaw30.MatchKnown'. -/
def matchKnownUptoCard : Claim7 := { stood := { row := matchKnownUptoRow, standIns := [], harness := (true, "1f7d4538d04e7c4b3199ea33eccd485c5e5c38ca8435c43d7f39ba8cde712c06"), looks := false }, kinds := [], alts := [], laidByText := true, laidKinds := [.data, .pinned], laidTests := true, laidLooks := .later }
def MatchKnownUptoCardSaid : Prop := Claim7.holds Tryz.pinned (.plain (OpenSpec.upto matchKnownSpec)) matchKnownUptoCard
end Rows
end Go.Proofs.YtocangegaonfeaaGreatDoor
