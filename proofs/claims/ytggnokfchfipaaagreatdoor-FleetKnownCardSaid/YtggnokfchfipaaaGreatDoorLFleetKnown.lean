/- The statement FleetKnown: its card. It says: the call returns true; conditions: the listed tables of unicode/utf8 lie as the program's text lays them (the card ties them). -/
import Derived.Test.YtggnokfchfipaaaGreatDoorLrowFleetKnown
import Derived.Test.YtggnokfchfipaaaGreatDoorGoesFleetKnown
import Derived.Test.YtggnokfchfipaaaGreatDoorCards
import Derived.Test.YtggnokfchfipaaaGreatDoorOwnTie
import Derived.SevenTiedAt
set_option linter.unusedVariables false
namespace Go.Proofs.YtggnokfchfipaaaGreatDoor.fleetKnown
open Go.ChangeShapes Go.WideShapes Go.ChangeAt Go.RowKit
theorem mainIs : Tryz.pinned.checked.prog.mainIs = some (true, "eb818553694abec864fd54432fc932979215116c4ca109c874d5e01c93fff7a5".toList) := by kernel_rfl
theorem wfBy : Rows.fleetKnownRow.wfByText (OpenSpec.ofChange Rows.fleetKnownSpec) = true := by kernel_rfl
theorem starts : Rows.fleetKnownRow.start = .entering := rfl
theorem blocks : Rows.fleetKnownRow.noBlocks = false ∧ Rows.fleetKnownRow.again = false := ⟨rfl, rfl⟩
theorem sixth : (!true && "eb818553694abec864fd54432fc932979215116c4ca109c874d5e01c93fff7a5".isEmpty && !false) = false := rfl
theorem looksAt (f : FuncId) (fn : Func) (hf : Tryz.pinned.checked.prog.funcNamed Rows.fleetKnownRow.func = some f) (hfn : Tryz.pinned.checked.prog.funcs[f]? = some fn) :
    false = Tryz.pinned.checked.prog.looks [] ∧ ∀ (j : Nat) t, fn.params[j]? = some t → Tryz.pinned.checked.prog.wantsStandIn t = false := by
  refine ⟨Facts.looks, fun j t ht => ?_⟩
  obtain rfl : f = 3 := Option.some.inj (named.symm.trans hf) |>.symm
  obtain rfl : fn = Tryz.f3 := (Option.some.inj (Tryz.func3.symm.trans hfn)).symm
  rw [Tryz.params3] at ht
  simp at ht
theorem card_holds : Rows.FleetKnownCardSaid :=
  Claim7.holds_tied_plain_at .later [] [.pinned, .data] true (true, "eb818553694abec864fd54432fc932979215116c4ca109c874d5e01c93fff7a5") false over (fun _ h => by cases h) wfBy (fun _ h => by cases h) fleetKnown_row_tie starts blocks mainIs sixth looksAt Facts.goesBy
#print axioms card_holds
end Go.Proofs.YtggnokfchfipaaaGreatDoor.fleetKnown
namespace Go.Proofs.YtggnokfchfipaaaGreatDoor
/-- The statement, under a short name, for the claim. -/
theorem fleetKnown_holds : Rows.FleetKnownCardSaid := fleetKnown.card_holds
end Go.Proofs.YtggnokfchfipaaaGreatDoor
