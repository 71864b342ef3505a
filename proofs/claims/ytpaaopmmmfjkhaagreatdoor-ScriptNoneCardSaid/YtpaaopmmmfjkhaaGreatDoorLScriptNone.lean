/- The statement ScriptNone: its card. It says: for every input the call returns true and every argument reads behind the call as it read before; conditions: the listed tables of unicode/utf8 lie as the program's text lays them (the card ties them). -/
import Derived.Test.YtpaaopmmmfjkhaaGreatDoorLrowScriptNone
import Derived.Test.YtpaaopmmmfjkhaaGreatDoorGoesScriptNone
import Derived.Test.YtpaaopmmmfjkhaaGreatDoorCards
import Derived.Test.YtpaaopmmmfjkhaaGreatDoorOwnTie
import Derived.SevenTiedAt
set_option linter.unusedVariables false
namespace Go.Proofs.YtpaaopmmmfjkhaaGreatDoor.scriptNone
open Go.ChangeShapes Go.WideShapes Go.ChangeAt Go.RowKit
theorem mainIs : Tryz.pinned.checked.prog.mainIs = some (true, "8445092d941de065140545a841dc45ce4285336ec0c58991da01ad4ac9fd75bf".toList) := by kernel_rfl
theorem wfBy : Rows.scriptNoneRow.wfByText (OpenSpec.ofChange Rows.scriptNoneSpec) = true := by kernel_rfl
theorem starts : Rows.scriptNoneRow.start = .entering := rfl
theorem blocks : Rows.scriptNoneRow.noBlocks = false ∧ Rows.scriptNoneRow.again = false := ⟨rfl, rfl⟩
theorem sixth : (!true && "8445092d941de065140545a841dc45ce4285336ec0c58991da01ad4ac9fd75bf".isEmpty && !false) = false := rfl
theorem looksAt (f : FuncId) (fn : Func) (hf : Tryz.pinned.checked.prog.funcNamed Rows.scriptNoneRow.func = some f) (hfn : Tryz.pinned.checked.prog.funcs[f]? = some fn) :
    false = Tryz.pinned.checked.prog.looks [] ∧ ∀ (j : Nat) t, fn.params[j]? = some t → Tryz.pinned.checked.prog.wantsStandIn t = false := by
  refine ⟨Facts.looks, fun j t ht => ?_⟩
  obtain rfl : f = 3 := Option.some.inj (named.symm.trans hf) |>.symm
  obtain rfl : fn = Tryz.f3 := (Option.some.inj (Tryz.func3.symm.trans hfn)).symm
  rw [Tryz.params3] at ht
  have hm : t ∈ [22] := by simpa using Array.mem_of_getElem? ht
  have hall : ([22].all fun u => !Tryz.prog.wantsStandIn u) = true := by kernel_rfl
  exact (show Tryz.prog.wantsStandIn t = false by simpa using List.all_eq_true.1 hall t hm)
theorem card_holds : Rows.ScriptNoneCardSaid :=
  Claim7.holds_tied_plain_at .later [] [.pinned, .data] true (true, "8445092d941de065140545a841dc45ce4285336ec0c58991da01ad4ac9fd75bf") false over (fun _ h => by cases h) wfBy (fun _ h => by cases h) scriptNone_row_tie starts blocks mainIs sixth looksAt Facts.goesBy
#print axioms card_holds
end Go.Proofs.YtpaaopmmmfjkhaaGreatDoor.scriptNone
namespace Go.Proofs.YtpaaopmmmfjkhaaGreatDoor
/-- The statement, under a short name, for the claim. -/
theorem scriptNone_holds : Rows.ScriptNoneCardSaid := scriptNone.card_holds
end Go.Proofs.YtpaaopmmmfjkhaaGreatDoor
