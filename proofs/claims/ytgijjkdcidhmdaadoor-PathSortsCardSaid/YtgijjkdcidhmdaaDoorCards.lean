/-
  DERIVED. GIVEN WITH THE SEED: THE CARDS: each row of YtgijjkdcidhmdaaDoorRows.lean that lists a variable, with what it lists TIED to the program's text (the seventh form; the later family's looks); each row that meets fmt, with fmt's text TOLD by the authors' own Lean function (tested against real Go, not proved from fmt's source: count such statements apart). THE CARD IS WHAT COUNTS. Prove the row's statement (the work); the ties are given (YtgijjkdcidhmdaaDoorTie.lean); close each card by the builder's one call (the guide's Derived/Test/ToyasCard.lean, 'card_holds'). Laid BY PROGRAM, IN A SANDBOX (cutbox-door.mjs). By AI agents, Wed Nov 11 2026. No macro, syntax, notation, axiom, sorry.
-/
import Derived.Test.YtgijjkdcidhmdaaDoorRows
import GoSem.ClaimSeven
namespace Go.Proofs.YtgijjkdcidhmdaaDoor
namespace Rows

/-- THE TIED CARD OF 'tributarylaw03.PathSorts'. -/
def pathSortsCard : Claim7 := { stood := { row := pathSortsRow, standIns := [], harness := (true, "89bb925e3ab329508ac5ab3c150fc9dbed7bdbb0e74dabea0df344d2d3f8c960"), looks := false }, kinds := [], alts := [], laidByText := true, laidKinds := [.data, .pinned], laidTests := true, laidLooks := .later }
def PathSortsCardSaid : Prop := Claim7.holds Tryd.pinned (.plain (OpenSpec.ofChange pathSortsSpec)) pathSortsCard

/-- THE TIED CARD OF 'tributarylaw03.PathKnown'. -/
def pathKnownCard : Claim7 := { stood := { row := pathKnownRow, standIns := [], harness := (true, "89bb925e3ab329508ac5ab3c150fc9dbed7bdbb0e74dabea0df344d2d3f8c960"), looks := false }, kinds := [], alts := [], laidByText := true, laidKinds := [.data, .pinned], laidTests := true, laidLooks := .later }
def PathKnownCardSaid : Prop := Claim7.holds Tryd.pinned (.plain (OpenSpec.ofChange pathKnownSpec)) pathKnownCard

/-- THE TIED CARD OF 'tributarylaw03.PathNear'. -/
def pathNearCard : Claim7 := { stood := { row := pathNearRow, standIns := [], harness := (true, "89bb925e3ab329508ac5ab3c150fc9dbed7bdbb0e74dabea0df344d2d3f8c960"), looks := false }, kinds := [], alts := [], laidByText := true, laidKinds := [.data, .pinned], laidTests := true, laidLooks := .later }
def PathNearCardSaid : Prop := Claim7.holds Tryd.pinned (.plain (OpenSpec.ofChange pathNearSpec)) pathNearCard

/-- THE TIED CARD OF 'tributarylaw03.PathOrder'. -/
def pathOrderCard : Claim7 := { stood := { row := pathOrderRow, standIns := [], harness := (true, "89bb925e3ab329508ac5ab3c150fc9dbed7bdbb0e74dabea0df344d2d3f8c960"), looks := false }, kinds := [], alts := [], laidByText := true, laidKinds := [.data, .pinned], laidTests := true, laidLooks := .later }
def PathOrderCardSaid : Prop := Claim7.holds Tryd.pinned (.plain (OpenSpec.ofChange pathOrderSpec)) pathOrderCard

/-- THE TIED CARD OF 'tributarylaw03.PathSet'. -/
def pathSetCard : Claim7 := { stood := { row := pathSetRow, standIns := [], harness := (true, "89bb925e3ab329508ac5ab3c150fc9dbed7bdbb0e74dabea0df344d2d3f8c960"), looks := false }, kinds := [], alts := [], laidByText := true, laidKinds := [.data, .pinned], laidTests := true, laidLooks := .later }
def PathSetCardSaid : Prop := Claim7.holds Tryd.pinned (.plain (OpenSpec.ofChange pathSetSpec)) pathSetCard

/-- THE TIED CARD OF 'tributarylaw03.PathBack'. -/
def pathBackCard : Claim7 := { stood := { row := pathBackRow, standIns := [], harness := (true, "89bb925e3ab329508ac5ab3c150fc9dbed7bdbb0e74dabea0df344d2d3f8c960"), looks := false }, kinds := [], alts := [], laidByText := true, laidKinds := [.data, .pinned], laidTests := true, laidLooks := .later }
def PathBackCardSaid : Prop := Claim7.holds Tryd.pinned (.plain (OpenSpec.ofChange pathBackSpec)) pathBackCard

/-- THE SECOND FORM's CARD OF 'tributarylaw03.PathSorts'. -/
def pathSortsUptoCard : Claim7 := { stood := { row := pathSortsUptoRow, standIns := [], harness := (true, "89bb925e3ab329508ac5ab3c150fc9dbed7bdbb0e74dabea0df344d2d3f8c960"), looks := false }, kinds := [], alts := [], laidByText := true, laidKinds := [.data, .pinned], laidTests := true, laidLooks := .later }
def PathSortsUptoCardSaid : Prop := Claim7.holds Tryd.pinned (.plain (OpenSpec.upto pathSortsSpec)) pathSortsUptoCard

/-- THE SECOND FORM's CARD OF 'tributarylaw03.PathKnown'. -/
def pathKnownUptoCard : Claim7 := { stood := { row := pathKnownUptoRow, standIns := [], harness := (true, "89bb925e3ab329508ac5ab3c150fc9dbed7bdbb0e74dabea0df344d2d3f8c960"), looks := false }, kinds := [], alts := [], laidByText := true, laidKinds := [.data, .pinned], laidTests := true, laidLooks := .later }
def PathKnownUptoCardSaid : Prop := Claim7.holds Tryd.pinned (.plain (OpenSpec.upto pathKnownSpec)) pathKnownUptoCard

/-- THE SECOND FORM's CARD OF 'tributarylaw03.PathNear'. -/
def pathNearUptoCard : Claim7 := { stood := { row := pathNearUptoRow, standIns := [], harness := (true, "89bb925e3ab329508ac5ab3c150fc9dbed7bdbb0e74dabea0df344d2d3f8c960"), looks := false }, kinds := [], alts := [], laidByText := true, laidKinds := [.data, .pinned], laidTests := true, laidLooks := .later }
def PathNearUptoCardSaid : Prop := Claim7.holds Tryd.pinned (.plain (OpenSpec.upto pathNearSpec)) pathNearUptoCard

/-- THE SECOND FORM's CARD OF 'tributarylaw03.PathOrder'. -/
def pathOrderUptoCard : Claim7 := { stood := { row := pathOrderUptoRow, standIns := [], harness := (true, "89bb925e3ab329508ac5ab3c150fc9dbed7bdbb0e74dabea0df344d2d3f8c960"), looks := false }, kinds := [], alts := [], laidByText := true, laidKinds := [.data, .pinned], laidTests := true, laidLooks := .later }
def PathOrderUptoCardSaid : Prop := Claim7.holds Tryd.pinned (.plain (OpenSpec.upto pathOrderSpec)) pathOrderUptoCard

/-- THE SECOND FORM's CARD OF 'tributarylaw03.PathSet'. -/
def pathSetUptoCard : Claim7 := { stood := { row := pathSetUptoRow, standIns := [], harness := (true, "89bb925e3ab329508ac5ab3c150fc9dbed7bdbb0e74dabea0df344d2d3f8c960"), looks := false }, kinds := [], alts := [], laidByText := true, laidKinds := [.data, .pinned], laidTests := true, laidLooks := .later }
def PathSetUptoCardSaid : Prop := Claim7.holds Tryd.pinned (.plain (OpenSpec.upto pathSetSpec)) pathSetUptoCard

/-- THE SECOND FORM's CARD OF 'tributarylaw03.PathBack'. -/
def pathBackUptoCard : Claim7 := { stood := { row := pathBackUptoRow, standIns := [], harness := (true, "89bb925e3ab329508ac5ab3c150fc9dbed7bdbb0e74dabea0df344d2d3f8c960"), looks := false }, kinds := [], alts := [], laidByText := true, laidKinds := [.data, .pinned], laidTests := true, laidLooks := .later }
def PathBackUptoCardSaid : Prop := Claim7.holds Tryd.pinned (.plain (OpenSpec.upto pathBackSpec)) pathBackUptoCard
end Rows
end Go.Proofs.YtgijjkdcidhmdaaDoor
