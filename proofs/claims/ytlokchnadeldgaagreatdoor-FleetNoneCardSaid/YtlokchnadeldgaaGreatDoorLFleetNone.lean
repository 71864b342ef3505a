/- The statement FleetNone: its card. It says: for every input the call returns true and every argument reads behind the call as it read before; conditions: the listed tables of unicode/utf8 lie as the program's text lays them (the card ties them). -/
import Derived.Test.YtlokchnadeldgaaGreatDoorLrowFleetNone
import Derived.Test.YtlokchnadeldgaaGreatDoorGoesFleetNone
import Derived.Test.YtlokchnadeldgaaGreatDoorCards
import Derived.Test.YtlokchnadeldgaaGreatDoorOwnTie
import Derived.SevenTiedAt
set_option linter.unusedVariables false
namespace Go.Proofs.YtlokchnadeldgaaGreatDoor.fleetNone
open Go.ChangeShapes Go.WideShapes Go.ChangeAt Go.RowKit
theorem mainIs : Tryz.pinned.checked.prog.mainIs = some (true, "59113f3dde05b85c05e84893d605cc1663d31230e4f8009a63a1b5b0602ec251".toList) := by kernel_rfl
theorem wfBy : Rows.fleetNoneRow.wfByText (OpenSpec.ofChange Rows.fleetNoneSpec) = true := by kernel_rfl
theorem starts : Rows.fleetNoneRow.start = .entering := rfl
theorem blocks : Rows.fleetNoneRow.noBlocks = false ∧ Rows.fleetNoneRow.again = false := ⟨rfl, rfl⟩
theorem sixth : (!true && "59113f3dde05b85c05e84893d605cc1663d31230e4f8009a63a1b5b0602ec251".isEmpty && !false) = false := rfl
theorem looksAt (f : FuncId) (fn : Func) (hf : Tryz.pinned.checked.prog.funcNamed Rows.fleetNoneRow.func = some f) (hfn : Tryz.pinned.checked.prog.funcs[f]? = some fn) :
    false = Tryz.pinned.checked.prog.looks [] ∧ ∀ (j : Nat) t, fn.params[j]? = some t → Tryz.pinned.checked.prog.wantsStandIn t = false := by
  refine ⟨Facts.looks, fun j t ht => ?_⟩
  obtain rfl : f = 4 := Option.some.inj (named.symm.trans hf) |>.symm
  obtain rfl : fn = Tryz.f4 := (Option.some.inj (Tryz.func4.symm.trans hfn)).symm
  rw [Tryz.params4] at ht
  have hm : t ∈ [64, 3] := by simpa using Array.mem_of_getElem? ht
  have hall : ([64, 3].all fun u => !Tryz.prog.wantsStandIn u) = true := by kernel_rfl
  exact (show Tryz.prog.wantsStandIn t = false by simpa using List.all_eq_true.1 hall t hm)
theorem card_holds : Rows.FleetNoneCardSaid :=
  Claim7.holds_tied_plain_at .later [] [.pinned, .data] true (true, "59113f3dde05b85c05e84893d605cc1663d31230e4f8009a63a1b5b0602ec251") false over (fun _ h => by cases h) wfBy (fun _ h => by cases h) fleetNone_row_tie starts blocks mainIs sixth looksAt Facts.goesBy
#print axioms card_holds
end Go.Proofs.YtlokchnadeldgaaGreatDoor.fleetNone
namespace Go.Proofs.YtlokchnadeldgaaGreatDoor
/-- The statement, under a short name, for the claim. -/
theorem fleetNone_holds : Rows.FleetNoneCardSaid := fleetNone.card_holds
end Go.Proofs.YtlokchnadeldgaaGreatDoor
