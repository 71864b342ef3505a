/- The statement ScriptKnown: its card. It says: for every input the call returns true and every argument reads behind the call as it read before; conditions: the listed tables of unicode/utf8 lie as the program's text lays them (the card ties them). -/
import Derived.Test.YtpaaopmmmfjkhaaGreatDoorLrowScriptKnown
import Derived.Test.YtpaaopmmmfjkhaaGreatDoorGoesScriptKnown
import Derived.Test.YtpaaopmmmfjkhaaGreatDoorCards
import Derived.Test.YtpaaopmmmfjkhaaGreatDoorOwnTie
import Derived.SevenTiedAt
set_option linter.unusedVariables false
namespace Go.Proofs.YtpaaopmmmfjkhaaGreatDoor.scriptKnown
open Go.ChangeShapes Go.WideShapes Go.ChangeAt Go.RowKit
theorem mainIs : Tryz.pinned.checked.prog.mainIs = some (true, "8445092d941de065140545a841dc45ce4285336ec0c58991da01ad4ac9fd75bf".toList) := by kernel_rfl
theorem wfBy : Rows.scriptKnownRow.wfByText (OpenSpec.ofChange Rows.scriptKnownSpec) = true := by kernel_rfl
theorem starts : Rows.scriptKnownRow.start = .entering := rfl
theorem blocks : Rows.scriptKnownRow.noBlocks = false ∧ Rows.scriptKnownRow.again = false := ⟨rfl, rfl⟩
theorem sixth : (!true && "8445092d941de065140545a841dc45ce4285336ec0c58991da01ad4ac9fd75bf".isEmpty && !false) = false := rfl
theorem looksAt (f : FuncId) (fn : Func) (hf : Tryz.pinned.checked.prog.funcNamed Rows.scriptKnownRow.func = some f) (hfn : Tryz.pinned.checked.prog.funcs[f]? = some fn) :
    false = Tryz.pinned.checked.prog.looks [] ∧ ∀ (j : Nat) t, fn.params[j]? = some t → Tryz.pinned.checked.prog.wantsStandIn t = false := by
  refine ⟨Facts.looks, fun j t ht => ?_⟩
  obtain rfl : f = 4 := Option.some.inj (named.symm.trans hf) |>.symm
  obtain rfl : fn = Tryz.f4 := (Option.some.inj (Tryz.func4.symm.trans hfn)).symm
  rw [Tryz.params4] at ht
  simp at ht
theorem card_holds : Rows.ScriptKnownCardSaid :=
  Claim7.holds_tied_plain_at .later [] [.pinned, .data] true (true, "8445092d941de065140545a841dc45ce4285336ec0c58991da01ad4ac9fd75bf") false over (fun _ h => by cases h) wfBy (fun _ h => by cases h) scriptKnown_row_tie starts blocks mainIs sixth looksAt Facts.goesBy
#print axioms card_holds
end Go.Proofs.YtpaaopmmmfjkhaaGreatDoor.scriptKnown
namespace Go.Proofs.YtpaaopmmmfjkhaaGreatDoor
/-- The statement, under a short name, for the claim. -/
theorem scriptKnown_holds : Rows.ScriptKnownCardSaid := scriptKnown.card_holds
end Go.Proofs.YtpaaopmmmfjkhaaGreatDoor
