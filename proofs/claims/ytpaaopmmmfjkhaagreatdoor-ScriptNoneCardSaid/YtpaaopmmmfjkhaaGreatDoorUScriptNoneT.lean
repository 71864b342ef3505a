/- ScriptNone: what the law's evaluation asks of the program once, and the answer of its examples, reckoned before. No conditions. -/
import Derived.Test.YtpaaopmmmfjkhaaGreatDoorEx6
import Derived.Test.YtpaaopmmmfjkhaaGreatDoorUawakeS
import Derived.Test.YtpaaopmmmfjkhaaGreatDoorProg
import Derived.KernelRfl
set_option linter.unusedVariables false
set_option maxRecDepth 1000000
namespace Go.Proofs.YtpaaopmmmfjkhaaGreatDoor.Q.ScriptNone
open Go.RowKit
open Go.Proofs.YtpaaopmmmfjkhaaGreatDoor.Ev (sV bV iV bL tL sl sx pt mp nS nP nM u3 u6 i3 bT bF ag K0 K1 Fm Row RowGood RowH RowHGood LO)
theorem T1 : ∀ r ∈ [Q.awakeS.r], RowGood Tryz.prog r := Ev.rows_cons Q.awakeS.RG Ev.rows_nil
def us : List Value := [Ev.unk 1, Ev.unk 1, Ev.unk 1, Ev.unk 3, Ev.unk 3, Ev.unk 1, Ev.unk 1, Ev.unk 4, Ev.unk 4]
end Go.Proofs.YtpaaopmmmfjkhaaGreatDoor.Q.ScriptNone
