/- PathKnown: the law's walk, out of the printed function and its value, which the kernel reckons. -/
import Derived.Test.YtgijjkdcidhmdaaDoorQ2
set_option linter.unusedVariables false
namespace Go.Proofs.YtgijjkdcidhmdaaDoor.Q
open Go.RowKit
theorem pathKnown_true : tributarylaw03_PathKnown.f 40 = some true := by decide +kernel
theorem walk_PathKnown (w : World) : Calls Tryd.prog 4 #[] w fun e w' => e = .returned (.bool true) ∧ Below w.heap.size w w' :=
  tributarylaw03_PathKnown.calls 40 true w pathKnown_true
end Go.Proofs.YtgijjkdcidhmdaaDoor.Q
