/- BenchKnown: the call without arguments: a row. No conditions. -/
import Derived.Lib.ItoaNum
import Derived.Test.YtpckhnmnekinkaaGreatDoorUBenchKnownD
import Derived.Test.YtpckhnmnekinkaaGreatDoorUBenchKnownE
import Derived.Test.YtpckhnmnekinkaaGreatDoorProg
import Derived.KernelRfl
set_option linter.unusedVariables false
set_option maxRecDepth 1000000
namespace Go.Proofs.YtpckhnmnekinkaaGreatDoor.Q.BenchKnown
open Go.RowKit
open Go.Proofs.YtpckhnmnekinkaaGreatDoor.Ev (sV bV iV bL tL sl sx pt mp nS nP nM u3 u6 i3 bT bF ag K0 K1 Fm Row RowGood RowH RowHGood LO putAt)
def tabs : List (Nat × List Value) := [(1, Lib.pow10Tab.map fun z => Value.int .u64 z)]
def r : Row := ⟨4, [], .bool true⟩
theorem RK : Ev.rowKOk (Ev.envK Tryz.prog exts srs t194 [putAt [] 69 p33,putAt [] 8905 p36,putAt [] 10784 p37,putAt [] 14875 p42] []) 100000 300 64 tabs r = true := by decide +kernel
theorem walk_BenchKnown (w : World) (hT : Lib.TabIs Tryz.prog w "internal/strconv.uint64pow10" .u64 Lib.pow10Tab) : Calls Tryz.prog 4 #[] w fun e w' => e = .returned (.bool true) ∧ Below w.heap.size w w' := Ev.rowK_good (U := [putAt [] 69 p33,putAt [] 8905 p36,putAt [] 10784 p37,putAt [] 14875 p42]) progOK T194 (N G33 (by decide +kernel) (N G36 (by decide +kernel) (N G37 (by decide +kernel) (N G42 (by decide +kernel) Z)))) [] (by decide) tabs RK w (Ev.tabsIn_of (by kernel_rfl) (by decide) (by decide +kernel) hT) .nil
end Go.Proofs.YtpckhnmnekinkaaGreatDoor.Q.BenchKnown
