/- ScriptKnown: the law's walk, the answer of its examples a row that was reckoned before. No conditions. -/
import Derived.Test.YtpaaopmmmfjkhaaGreatDoorUawakeS
import Derived.Test.YtpaaopmmmfjkhaaGreatDoorProg
import Derived.KernelRfl
set_option linter.unusedVariables false
set_option maxRecDepth 1000000
namespace Go.Proofs.YtpaaopmmmfjkhaaGreatDoor.Q.ScriptKnown
open Go.RowKit
open Go.Proofs.YtpaaopmmmfjkhaaGreatDoor.Ev (sV bV iV bL tL sl sx pt mp nS nP nM u3 u6 i3 bT bF ag K0 K1 Fm Row RowGood RowH RowHGood LO)
theorem T1 : ∀ r ∈ [Q.awakeS.r], RowGood Tryz.prog r := Ev.rows_cons Q.awakeS.RG Ev.rows_nil
def r : Row := ⟨4, [], .bool true⟩
theorem RG : RowGood Tryz.prog r := Ev.row_good (U := []) Q.awakeS.progOK T1 Ev.rowsH_nil (fuel := 100000) (depth := 300) (nx := 64) (by decide) (by decide +kernel)
theorem walk_ScriptKnown (w : World) : Calls Tryz.prog 4 #[] w fun e w' => e = .returned (.bool true) ∧ Below w.heap.size w w' := Ev.RowGood.calls RG w
end Go.Proofs.YtpaaopmmmfjkhaaGreatDoor.Q.ScriptKnown
