/- awake: the law's walk: the evaluator reckons it, in the kernel, out of what it reckoned before. No conditions. -/
import Derived.Test.YtlokchnadeldgaaGreatDoorUawakeA
import Derived.Test.YtlokchnadeldgaaGreatDoorUawakeB
import Derived.Test.YtlokchnadeldgaaGreatDoorUawakeC
import Derived.Test.YtlokchnadeldgaaGreatDoorUawakeD
import Derived.Test.YtlokchnadeldgaaGreatDoorProg
import Derived.KernelRfl
set_option linter.unusedVariables false
set_option maxRecDepth 1000000
namespace Go.Proofs.YtlokchnadeldgaaGreatDoor.Q.awake
open Go.RowKit
open Go.Proofs.YtlokchnadeldgaaGreatDoor.Ev (sV bV iV bL tL sl sx pt mp nS nP nM u3 u6 i3 bT bF ag K0 K1 Fm Row RowGood RowH RowHGood LO)
noncomputable def utop : List RowH := [Ev.putAt [64, 65, 98] 106 p0, Ev.putAt [540, 541, 574] 582 p1, Ev.putAt [64, 65, 66, 69, 98, 125, 219, 278, 463, 464, 465, 498, 499, 501, 538, 539, 542, 544, 545] 914 p4, Ev.putAt [66, 69, 538, 539, 540, 541, 542, 544, 545, 574, 599, 693, 730, 869, 870, 871, 904, 905, 907] 1567 p7, Ev.putAt [2188, 2189, 2191, 2192, 2223] 2231 p8, Ev.putAt [66, 69, 540, 541, 542, 544, 545, 574, 599, 693, 730, 869, 870, 871, 907, 1825, 1826, 1930, 1931, 2089, 2090, 2123, 2124, 2143, 2186, 2187, 2190, 2194] 2593 p15, Ev.putAt [66, 69, 542, 544, 545, 2186, 2187, 2188, 2189, 2190, 2191, 2192, 2194, 2223, 2248, 2342, 2379, 2548, 2549, 2550, 2583, 2584, 2586] 3500 p18, Ev.putAt [66, 69, 542, 544, 545, 2187, 2188, 2189, 2190, 2191, 2192, 2194, 2223, 2248, 2342, 2379, 2548, 2549, 2550, 2586, 3763, 3764, 3868, 3869, 4027, 4028, 4061, 4062, 4073, 4080, 4081, 4302, 4303, 4322, 4323] 4368 p22]
def r : Row := ⟨21, [], .bool true⟩
theorem RG : RowGood Tryz.prog r := Ev.row_good (U := utop) progOK T27 (Ev.rowsH_cons (Ev.putAt_good PG0 (by decide +kernel)) (Ev.rowsH_cons (Ev.putAt_good PG1 (by decide +kernel)) (Ev.rowsH_cons (Ev.putAt_good PG4 (by decide +kernel)) (Ev.rowsH_cons (Ev.putAt_good PG7 (by decide +kernel)) (Ev.rowsH_cons (Ev.putAt_good PG8 (by decide +kernel)) (Ev.rowsH_cons (Ev.putAt_good PG15 (by decide +kernel)) (Ev.rowsH_cons (Ev.putAt_good PG18 (by decide +kernel)) (Ev.rowsH_cons (Ev.putAt_good PG22 (by decide +kernel)) Ev.rowsH_nil)))))))) (fuel := 100000) (depth := 300) (nx := 64) (by decide) (by decide +kernel)
theorem walk_awake (w : World) : Calls Tryz.prog 21 #[] w fun e w' => e = .returned (.bool true) ∧ Below w.heap.size w w' := Ev.RowGood.calls RG w
end Go.Proofs.YtlokchnadeldgaaGreatDoor.Q.awake
