/- The statement BenchKnown: its card. It says: for every input the call returns true and every argument reads behind the call as it read before; conditions: the listed tables of unicode/utf8 lie as the program's text lays them (the card ties them). -/
import Derived.Test.YtpckhnmnekinkaaGreatDoorLrowBenchKnown
import Derived.Test.YtpckhnmnekinkaaGreatDoorGoesBenchKnown
import Derived.Test.YtpckhnmnekinkaaGreatDoorCards
import Derived.Test.YtpckhnmnekinkaaGreatDoorOwnTie
import Derived.SevenTiedAt
set_option linter.unusedVariables false
namespace Go.Proofs.YtpckhnmnekinkaaGreatDoor.benchKnown
open Go.ChangeShapes Go.WideShapes Go.ChangeAt Go.RowKit
theorem mainIs : Tryz.pinned.checked.prog.mainIs = some (true, "9713eeebe5020ed967568b0a0431bdf158258fc643447df05918d11794e1cbbe".toList) := by kernel_rfl
theorem wfBy : Rows.benchKnownRow.wfByText (OpenSpec.ofChange Rows.benchKnownSpec) = true := by kernel_rfl
theorem starts : Rows.benchKnownRow.start = .entering := rfl
theorem blocks : Rows.benchKnownRow.noBlocks = false ∧ Rows.benchKnownRow.again = false := ⟨rfl, rfl⟩
theorem sixth : (!true && "9713eeebe5020ed967568b0a0431bdf158258fc643447df05918d11794e1cbbe".isEmpty && !false) = false := rfl
theorem looksAt (f : FuncId) (fn : Func) (hf : Tryz.pinned.checked.prog.funcNamed Rows.benchKnownRow.func = some f) (hfn : Tryz.pinned.checked.prog.funcs[f]? = some fn) :
    false = Tryz.pinned.checked.prog.looks [] ∧ ∀ (j : Nat) t, fn.params[j]? = some t → Tryz.pinned.checked.prog.wantsStandIn t = false := by
  refine ⟨Facts.looks, fun j t ht => ?_⟩
  obtain rfl : f = 4 := Option.some.inj (named.symm.trans hf) |>.symm
  obtain rfl : fn = Tryz.f4 := (Option.some.inj (Tryz.func4.symm.trans hfn)).symm
  rw [Tryz.params4] at ht
  simp at ht
theorem card_holds : Rows.BenchKnownCardSaid :=
  Claim7.holds_tied_plain_at .later [] [.pinned, .data, .data, .data, .data] true (true, "9713eeebe5020ed967568b0a0431bdf158258fc643447df05918d11794e1cbbe") false over (fun _ h => by cases h) wfBy (fun _ h => by cases h) benchKnown_row_tie starts blocks mainIs sixth looksAt Facts.goesBy
#print axioms card_holds
end Go.Proofs.YtpckhnmnekinkaaGreatDoor.benchKnown
namespace Go.Proofs.YtpckhnmnekinkaaGreatDoor
/-- The statement, under a short name, for the claim. -/
theorem benchKnown_holds : Rows.BenchKnownCardSaid := benchKnown.card_holds
end Go.Proofs.YtpckhnmnekinkaaGreatDoor
