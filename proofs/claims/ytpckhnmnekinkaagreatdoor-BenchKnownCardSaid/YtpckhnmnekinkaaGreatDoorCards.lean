/-
  DERIVED. GIVEN WITH THE SEED: THE CARDS: each row of YtpckhnmnekinkaaGreatDoorRows.lean that lists a variable, with what it lists TIED to the program's text (the seventh form; the later family's looks); each row that meets fmt, with fmt's text TOLD by the authors' own Lean function (tested against real Go, not proved from fmt's source: count such statements apart). THE CARD IS WHAT COUNTS. Prove the row's statement (the work); the ties are given (YtpckhnmnekinkaaGreatDoorTie.lean); close each card by the builder's one call (the guide's Derived/Test/ToyasCard.lean, 'card_holds'). Laid BY PROGRAM, IN A SANDBOX (cutbox-door.mjs). By AI agents, Wed Nov 11 2026. No macro, syntax, notation, axiom, sorry.
-/
import Derived.Test.YtpckhnmnekinkaaGreatDoorRows
import GoSem.ClaimSeven
namespace Go.Proofs.YtpckhnmnekinkaaGreatDoor
namespace Rows

/-- THE TIED CARD OF 'tributarylaw32.BenchWords'. -/
def benchWordsCard : Claim7 := { stood := { row := benchWordsRow, standIns := [], harness := (true, "9713eeebe5020ed967568b0a0431bdf158258fc643447df05918d11794e1cbbe"), looks := false }, kinds := [], alts := [], laidByText := true, laidKinds := [.pinned, .data, .data, .data, .data], laidTests := true, laidLooks := .later }
def BenchWordsCardSaid : Prop := Claim7.holds Tryz.pinned (.plain (OpenSpec.ofChange benchWordsSpec)) benchWordsCard

/-- THE TIED CARD OF 'tributarylaw32.BenchKnown'. -/
def benchKnownCard : Claim7 := { stood := { row := benchKnownRow, standIns := [], harness := (true, "9713eeebe5020ed967568b0a0431bdf158258fc643447df05918d11794e1cbbe"), looks := false }, kinds := [], alts := [], laidByText := true, laidKinds := [.pinned, .data, .data, .data, .data], laidTests := true, laidLooks := .later }
def BenchKnownCardSaid : Prop := Claim7.holds Tryz.pinned (.plain (OpenSpec.ofChange benchKnownSpec)) benchKnownCard

/-- THE TIED CARD OF 'tributarylaw32.BenchNumbers'. -/
def benchNumbersCard : Claim7 := { stood := { row := benchNumbersRow, standIns := [], harness := (true, "9713eeebe5020ed967568b0a0431bdf158258fc643447df05918d11794e1cbbe"), looks := false }, kinds := [], alts := [], laidByText := true, laidKinds := [.pinned, .data, .data, .data, .data], laidTests := true, laidLooks := .later }
def BenchNumbersCardSaid : Prop := Claim7.holds Tryz.pinned (.plain (OpenSpec.ofChange benchNumbersSpec)) benchNumbersCard

/-- THE SECOND FORM's CARD OF 'tributarylaw32.BenchWords'. -/
def benchWordsUptoCard : Claim7 := { stood := { row := benchWordsUptoRow, standIns := [], harness := (true, "9713eeebe5020ed967568b0a0431bdf158258fc643447df05918d11794e1cbbe"), looks := false }, kinds := [], alts := [], laidByText := true, laidKinds := [.pinned, .data, .data, .data, .data], laidTests := true, laidLooks := .later }
def BenchWordsUptoCardSaid : Prop := Claim7.holds Tryz.pinned (.plain (OpenSpec.upto benchWordsSpec)) benchWordsUptoCard

/-- THE SECOND FORM's CARD OF 'tributarylaw32.BenchKnown'. -/
def benchKnownUptoCard : Claim7 := { stood := { row := benchKnownUptoRow, standIns := [], harness := (true, "9713eeebe5020ed967568b0a0431bdf158258fc643447df05918d11794e1cbbe"), looks := false }, kinds := [], alts := [], laidByText := true, laidKinds := [.pinned, .data, .data, .data, .data], laidTests := true, laidLooks := .later }
def BenchKnownUptoCardSaid : Prop := Claim7.holds Tryz.pinned (.plain (OpenSpec.upto benchKnownSpec)) benchKnownUptoCard

/-- THE SECOND FORM's CARD OF 'tributarylaw32.BenchNumbers'. -/
def benchNumbersUptoCard : Claim7 := { stood := { row := benchNumbersUptoRow, standIns := [], harness := (true, "9713eeebe5020ed967568b0a0431bdf158258fc643447df05918d11794e1cbbe"), looks := false }, kinds := [], alts := [], laidByText := true, laidKinds := [.pinned, .data, .data, .data, .data], laidTests := true, laidLooks := .later }
def BenchNumbersUptoCardSaid : Prop := Claim7.holds Tryz.pinned (.plain (OpenSpec.upto benchNumbersSpec)) benchNumbersUptoCard
end Rows
end Go.Proofs.YtpckhnmnekinkaaGreatDoor
