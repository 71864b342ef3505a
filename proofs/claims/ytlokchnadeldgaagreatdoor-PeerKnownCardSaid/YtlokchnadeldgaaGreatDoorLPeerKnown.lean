/- The statement PeerKnown: its card. It says: the call returns true; conditions: the listed tables of unicode/utf8 lie as the program's text lays them (the card ties them). -/
import Derived.Test.YtlokchnadeldgaaGreatDoorLrowPeerKnown
import Derived.Test.YtlokchnadeldgaaGreatDoorGoesPeerKnown
import Derived.Test.YtlokchnadeldgaaGreatDoorCards
import Derived.Test.YtlokchnadeldgaaGreatDoorOwnTie
import Derived.SevenTiedAt
set_option linter.unusedVariables false
namespace Go.Proofs.YtlokchnadeldgaaGreatDoor.peerKnown
open Go.ChangeShapes Go.WideShapes Go.ChangeAt Go.RowKit
theorem mainIs : Tryz.pinned.checked.prog.mainIs = some (true, "59113f3dde05b85c05e84893d605cc1663d31230e4f8009a63a1b5b0602ec251".toList) := by kernel_rfl
theorem wfBy : Rows.peerKnownRow.wfByText (OpenSpec.ofChange Rows.peerKnownSpec) = true := by kernel_rfl
theorem starts : Rows.peerKnownRow.start = .entering := rfl
theorem blocks : Rows.peerKnownRow.noBlocks = false ∧ Rows.peerKnownRow.again = false := ⟨rfl, rfl⟩
theorem sixth : (!true && "59113f3dde05b85c05e84893d605cc1663d31230e4f8009a63a1b5b0602ec251".isEmpty && !false) = false := rfl
theorem looksAt (f : FuncId) (fn : Func) (hf : Tryz.pinned.checked.prog.funcNamed Rows.peerKnownRow.func = some f) (hfn : Tryz.pinned.checked.prog.funcs[f]? = some fn) :
    false = Tryz.pinned.checked.prog.looks [] ∧ ∀ (j : Nat) t, fn.params[j]? = some t → Tryz.pinned.checked.prog.wantsStandIn t = false := by
  refine ⟨Facts.looks, fun j t ht => ?_⟩
  obtain rfl : f = 3 := Option.some.inj (named.symm.trans hf) |>.symm
  obtain rfl : fn = Tryz.f3 := (Option.some.inj (Tryz.func3.symm.trans hfn)).symm
  rw [Tryz.params3] at ht
  simp at ht
theorem card_holds : Rows.PeerKnownCardSaid :=
  Claim7.holds_tied_plain_at .later [] [.pinned, .data] true (true, "59113f3dde05b85c05e84893d605cc1663d31230e4f8009a63a1b5b0602ec251") false over (fun _ h => by cases h) wfBy (fun _ h => by cases h) peerKnown_row_tie starts blocks mainIs sixth looksAt Facts.goesBy
#print axioms card_holds
end Go.Proofs.YtlokchnadeldgaaGreatDoor.peerKnown
namespace Go.Proofs.YtlokchnadeldgaaGreatDoor
/-- The statement, under a short name, for the claim. -/
theorem peerKnown_holds : Rows.PeerKnownCardSaid := peerKnown.card_holds
end Go.Proofs.YtlokchnadeldgaaGreatDoor
