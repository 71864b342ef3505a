/- FleetKnown: the law's walk: the evaluator reckons it, in the kernel, out of what it reckoned before. No conditions. -/
import Derived.Test.YtggnokfchfipaaaGreatDoorUFleetKnownA
import Derived.Test.YtggnokfchfipaaaGreatDoorUFleetKnownB
import Derived.Test.YtggnokfchfipaaaGreatDoorUFleetKnownC
import Derived.Test.YtggnokfchfipaaaGreatDoorUFleetKnownD
import Derived.Test.YtggnokfchfipaaaGreatDoorUFleetKnownE
import Derived.Test.YtggnokfchfipaaaGreatDoorUFleetKnownF
import Derived.Test.YtggnokfchfipaaaGreatDoorProg
import Derived.KernelRfl
set_option linter.unusedVariables false
namespace Go.Proofs.YtggnokfchfipaaaGreatDoor.Q
open Go.RowKit
open Go.Proofs.YtggnokfchfipaaaGreatDoor.Ev (sV bV iV bL tL Row RowGood RowH RowHGood LO)
def utop : List RowH := [p5, p9, p10, p11, p12, p13, p14, p15, p16, p17, p18, p19, p20, p21, p22, p25, p27, p29, p31, p34, p40, p44]
def r : Row := ⟨3, [], .bool true⟩
theorem RG : RowGood Tryz.prog r := Ev.row_good (U := utop) progOK T96 (Ev.rowsH_cons PG5 (Ev.rowsH_cons PG9 (Ev.rowsH_cons PG10 (Ev.rowsH_cons PG11 (Ev.rowsH_cons PG12 (Ev.rowsH_cons PG13 (Ev.rowsH_cons PG14 (Ev.rowsH_cons PG15 (Ev.rowsH_cons PG16 (Ev.rowsH_cons PG17 (Ev.rowsH_cons PG18 (Ev.rowsH_cons PG19 (Ev.rowsH_cons PG20 (Ev.rowsH_cons PG21 (Ev.rowsH_cons PG22 (Ev.rowsH_cons PG25 (Ev.rowsH_cons PG27 (Ev.rowsH_cons PG29 (Ev.rowsH_cons PG31 (Ev.rowsH_cons PG34 (Ev.rowsH_cons PG40 (Ev.rowsH_cons PG44 Ev.rowsH_nil)))))))))))))))))))))) (fuel := 100000) (depth := 300) (nx := 64) (by decide) (by decide +kernel)
theorem walk_FleetKnown (w : World) : Calls Tryz.prog 3 #[] w fun e w' => e = .returned (.bool true) ∧ Below w.heap.size w w' := Ev.RowGood.calls RG w
end Go.Proofs.YtggnokfchfipaaaGreatDoor.Q
