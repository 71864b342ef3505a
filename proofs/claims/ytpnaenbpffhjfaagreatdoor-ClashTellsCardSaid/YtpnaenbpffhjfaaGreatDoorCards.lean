/-
  DERIVED. GIVEN WITH THE SEED: THE CARDS: each row of YtpnaenbpffhjfaaGreatDoorRows.lean that lists a variable, with what it lists TIED to the program's text (the seventh form; the later family's looks); each row that meets fmt, with fmt's text TOLD by the authors' own Lean function (tested against real Go, not proved from fmt's source: count such statements apart). THE CARD IS WHAT COUNTS. Prove the row's statement (the work); the ties are given (YtpnaenbpffhjfaaGreatDoorTie.lean); close each card by the builder's one call (the guide's Derived/Test/ToyasCard.lean, 'card_holds'). Laid BY PROGRAM, IN A SANDBOX (cutbox-door.mjs). By AI agents, Wed Nov 11 2026. No macro, syntax, notation, axiom, sorry.
-/
import Derived.Test.YtpnaenbpffhjfaaGreatDoorRows
import GoSem.ClaimSeven
namespace Go.Proofs.YtpnaenbpffhjfaaGreatDoor
namespace Rows

/-- THE TIED CARD OF 'tributarylaw11.ClashTells'. -/
def clashTellsCard : Claim7 := { stood := { row := clashTellsRow, standIns := [], harness := (true, "29c41f172b12966d996cd80dc12aa2e1de0e919a580395bbbfbcd500b298aef9"), looks := false }, kinds := [], alts := [], laidByText := true, laidKinds := [.data, .pinned], laidTests := true, laidLooks := .later }
def ClashTellsCardSaid : Prop := Claim7.holds Tryz.pinned (.plain (OpenSpec.ofChange clashTellsSpec)) clashTellsCard

/-- THE TIED CARD OF 'tributarylaw11.ClashAll'. -/
def clashAllCard : Claim7 := { stood := { row := clashAllRow, standIns := [], harness := (true, "29c41f172b12966d996cd80dc12aa2e1de0e919a580395bbbfbcd500b298aef9"), looks := false }, kinds := [], alts := [], laidByText := true, laidKinds := [.data, .pinned], laidTests := true, laidLooks := .later }
def ClashAllCardSaid : Prop := Claim7.holds Tryz.pinned (.plain (OpenSpec.ofChange clashAllSpec)) clashAllCard

/-- THE TIED CARD OF 'tributarylaw11.ClashEither'. -/
def clashEitherCard : Claim7 := { stood := { row := clashEitherRow, standIns := [], harness := (true, "29c41f172b12966d996cd80dc12aa2e1de0e919a580395bbbfbcd500b298aef9"), looks := false }, kinds := [], alts := [], laidByText := true, laidKinds := [.data, .pinned], laidTests := true, laidLooks := .later }
def ClashEitherCardSaid : Prop := Claim7.holds Tryz.pinned (.plain (OpenSpec.ofChange clashEitherSpec)) clashEitherCard

/-- THE TIED CARD OF 'tributarylaw11.ClashBehind'. -/
def clashBehindCard : Claim7 := { stood := { row := clashBehindRow, standIns := [], harness := (true, "29c41f172b12966d996cd80dc12aa2e1de0e919a580395bbbfbcd500b298aef9"), looks := false }, kinds := [], alts := [], laidByText := true, laidKinds := [.data, .pinned], laidTests := true, laidLooks := .later }
def ClashBehindCardSaid : Prop := Claim7.holds Tryz.pinned (.plain (OpenSpec.ofChange clashBehindSpec)) clashBehindCard

/-- THE TIED CARD OF 'tributarylaw22.LedgerScans'. -/
def ledgerScansCard : Claim7 := { stood := { row := ledgerScansRow, standIns := [], harness := (true, "29c41f172b12966d996cd80dc12aa2e1de0e919a580395bbbfbcd500b298aef9"), looks := false }, kinds := [], alts := [], laidByText := true, laidKinds := [.data, .pinned], laidTests := true, laidLooks := .later }
def LedgerScansCardSaid : Prop := Claim7.holds Tryz.pinned (.plain (OpenSpec.ofChange ledgerScansSpec)) ledgerScansCard

/-- THE TIED CARD OF 'tributarylaw22.LedgerBytes'. -/
def ledgerBytesCard : Claim7 := { stood := { row := ledgerBytesRow, standIns := [], harness := (true, "29c41f172b12966d996cd80dc12aa2e1de0e919a580395bbbfbcd500b298aef9"), looks := false }, kinds := [], alts := [], laidByText := true, laidKinds := [.data, .pinned], laidTests := true, laidLooks := .later }
def LedgerBytesCardSaid : Prop := Claim7.holds Tryz.pinned (.plain (OpenSpec.ofChange ledgerBytesSpec)) ledgerBytesCard

/-- THE TIED CARD OF 'tributarylaw22.LedgerBack'. -/
def ledgerBackCard : Claim7 := { stood := { row := ledgerBackRow, standIns := [], harness := (true, "29c41f172b12966d996cd80dc12aa2e1de0e919a580395bbbfbcd500b298aef9"), looks := false }, kinds := [], alts := [], laidByText := true, laidKinds := [.data, .pinned], laidTests := true, laidLooks := .later }
def LedgerBackCardSaid : Prop := Claim7.holds Tryz.pinned (.plain (OpenSpec.ofChange ledgerBackSpec)) ledgerBackCard

/-- THE TIED CARD OF 'tributarylaw22.LedgerOnce'. -/
def ledgerOnceCard : Claim7 := { stood := { row := ledgerOnceRow, standIns := [], harness := (true, "29c41f172b12966d996cd80dc12aa2e1de0e919a580395bbbfbcd500b298aef9"), looks := false }, kinds := [], alts := [], laidByText := true, laidKinds := [.data, .pinned], laidTests := true, laidLooks := .later }
def LedgerOnceCardSaid : Prop := Claim7.holds Tryz.pinned (.plain (OpenSpec.ofChange ledgerOnceSpec)) ledgerOnceCard

/-- THE SECOND FORM's CARD OF 'tributarylaw11.ClashTells'. -/
def clashTellsUptoCard : Claim7 := { stood := { row := clashTellsUptoRow, standIns := [], harness := (true, "29c41f172b12966d996cd80dc12aa2e1de0e919a580395bbbfbcd500b298aef9"), looks := false }, kinds := [], alts := [], laidByText := true, laidKinds := [.data, .pinned], laidTests := true, laidLooks := .later }
def ClashTellsUptoCardSaid : Prop := Claim7.holds Tryz.pinned (.plain (OpenSpec.upto clashTellsSpec)) clashTellsUptoCard

/-- THE SECOND FORM's CARD OF 'tributarylaw11.ClashAll'. -/
def clashAllUptoCard : Claim7 := { stood := { row := clashAllUptoRow, standIns := [], harness := (true, "29c41f172b12966d996cd80dc12aa2e1de0e919a580395bbbfbcd500b298aef9"), looks := false }, kinds := [], alts := [], laidByText := true, laidKinds := [.data, .pinned], laidTests := true, laidLooks := .later }
def ClashAllUptoCardSaid : Prop := Claim7.holds Tryz.pinned (.plain (OpenSpec.upto clashAllSpec)) clashAllUptoCard

/-- THE SECOND FORM's CARD OF 'tributarylaw11.ClashEither'. -/
def clashEitherUptoCard : Claim7 := { stood := { row := clashEitherUptoRow, standIns := [], harness := (true, "29c41f172b12966d996cd80dc12aa2e1de0e919a580395bbbfbcd500b298aef9"), looks := false }, kinds := [], alts := [], laidByText := true, laidKinds := [.data, .pinned], laidTests := true, laidLooks := .later }
def ClashEitherUptoCardSaid : Prop := Claim7.holds Tryz.pinned (.plain (OpenSpec.upto clashEitherSpec)) clashEitherUptoCard

/-- THE SECOND FORM's CARD OF 'tributarylaw11.ClashBehind'. -/
def clashBehindUptoCard : Claim7 := { stood := { row := clashBehindUptoRow, standIns := [], harness := (true, "29c41f172b12966d996cd80dc12aa2e1de0e919a580395bbbfbcd500b298aef9"), looks := false }, kinds := [], alts := [], laidByText := true, laidKinds := [.data, .pinned], laidTests := true, laidLooks := .later }
def ClashBehindUptoCardSaid : Prop := Claim7.holds Tryz.pinned (.plain (OpenSpec.upto clashBehindSpec)) clashBehindUptoCard

/-- THE SECOND FORM's CARD OF 'tributarylaw22.LedgerScans'. -/
def ledgerScansUptoCard : Claim7 := { stood := { row := ledgerScansUptoRow, standIns := [], harness := (true, "29c41f172b12966d996cd80dc12aa2e1de0e919a580395bbbfbcd500b298aef9"), looks := false }, kinds := [], alts := [], laidByText := true, laidKinds := [.data, .pinned], laidTests := true, laidLooks := .later }
def LedgerScansUptoCardSaid : Prop := Claim7.holds Tryz.pinned (.plain (OpenSpec.upto ledgerScansSpec)) ledgerScansUptoCard

/-- THE SECOND FORM's CARD OF 'tributarylaw22.LedgerBytes'. -/
def ledgerBytesUptoCard : Claim7 := { stood := { row := ledgerBytesUptoRow, standIns := [], harness := (true, "29c41f172b12966d996cd80dc12aa2e1de0e919a580395bbbfbcd500b298aef9"), looks := false }, kinds := [], alts := [], laidByText := true, laidKinds := [.data, .pinned], laidTests := true, laidLooks := .later }
def LedgerBytesUptoCardSaid : Prop := Claim7.holds Tryz.pinned (.plain (OpenSpec.upto ledgerBytesSpec)) ledgerBytesUptoCard

/-- THE SECOND FORM's CARD OF 'tributarylaw22.LedgerBack'. -/
def ledgerBackUptoCard : Claim7 := { stood := { row := ledgerBackUptoRow, standIns := [], harness := (true, "29c41f172b12966d996cd80dc12aa2e1de0e919a580395bbbfbcd500b298aef9"), looks := false }, kinds := [], alts := [], laidByText := true, laidKinds := [.data, .pinned], laidTests := true, laidLooks := .later }
def LedgerBackUptoCardSaid : Prop := Claim7.holds Tryz.pinned (.plain (OpenSpec.upto ledgerBackSpec)) ledgerBackUptoCard

/-- THE SECOND FORM's CARD OF 'tributarylaw22.LedgerOnce'. -/
def ledgerOnceUptoCard : Claim7 := { stood := { row := ledgerOnceUptoRow, standIns := [], harness := (true, "29c41f172b12966d996cd80dc12aa2e1de0e919a580395bbbfbcd500b298aef9"), looks := false }, kinds := [], alts := [], laidByText := true, laidKinds := [.data, .pinned], laidTests := true, laidLooks := .later }
def LedgerOnceUptoCardSaid : Prop := Claim7.holds Tryz.pinned (.plain (OpenSpec.upto ledgerOnceSpec)) ledgerOnceUptoCard
end Rows
end Go.Proofs.YtpnaenbpffhjfaaGreatDoor
