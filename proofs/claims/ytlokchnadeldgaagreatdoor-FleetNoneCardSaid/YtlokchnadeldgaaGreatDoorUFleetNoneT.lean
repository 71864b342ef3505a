/- FleetNone: what the law's evaluation asks of the program once, and a table of 1 answers that the evaluator reckoned, in the kernel. No conditions. -/
import Derived.Test.YtlokchnadeldgaaGreatDoorEv5
import Derived.Test.YtlokchnadeldgaaGreatDoorUawake
import Derived.Test.YtlokchnadeldgaaGreatDoorProg
import Derived.KernelRfl
set_option linter.unusedVariables false
namespace Go.Proofs.YtlokchnadeldgaaGreatDoor.Q.FleetNone
open Go.RowKit
open Go.Proofs.YtlokchnadeldgaaGreatDoor.Ev (sV bV iV bL tL sl sx pt mp nS nP nM u3 u6 i3 bT bF ag K0 K1 Fm Row RowGood RowH RowHGood LO)
def exts : List (Nat × Ev.Ext) := [(150, .astore), (152, .astore), (197, .aload .i64), (198, .aswap .u32), (246, .aadd .i64), (370, .aload .u32), (448, .compare), (537, .acas .i64), (570, .quiet 0), (571, .acas .i32), (572, .quiet 1), (573, .race 0), (575, .race 2), (576, .aadd .i32), (595, .count), (657, .indexByte)]
def srs : List (Nat × Nat × Bool) := []
theorem draws : Tryz.prog.follows .mixedOrders = true := by kernel_rfl
theorem names : Ev.NameGood Tryz.prog := Ev.names_good (n := 773) (by kernel_rfl) (by decide +kernel)
theorem progOK : Ev.ProgOK Tryz.prog exts srs where
  draws := draws
  names := names
  exts p hp := by
    simp only [exts, List.mem_cons, List.not_mem_nil, or_false] at hp
    rcases hp with rfl | rfl | rfl | rfl | rfl | rfl | rfl | rfl | rfl | rfl | rfl | rfl | rfl | rfl | rfl | rfl
    · exact ⟨Tryz.f150, by kernel_rfl, by kernel_rfl, by kernel_rfl, by kernel_rfl, trivial⟩
    · exact ⟨Tryz.f152, by kernel_rfl, by kernel_rfl, by kernel_rfl, by kernel_rfl, trivial⟩
    · exact ⟨Tryz.f197, by kernel_rfl, by kernel_rfl, by kernel_rfl, by kernel_rfl, trivial⟩
    · exact ⟨Tryz.f198, by kernel_rfl, by kernel_rfl, by kernel_rfl, by kernel_rfl, trivial⟩
    · exact ⟨Tryz.f246, by kernel_rfl, by kernel_rfl, by kernel_rfl, by kernel_rfl, trivial⟩
    · exact ⟨Tryz.f370, by kernel_rfl, by kernel_rfl, by kernel_rfl, by kernel_rfl, trivial⟩
    · exact ⟨Tryz.f448, by kernel_rfl, by kernel_rfl, by kernel_rfl, by kernel_rfl, trivial⟩
    · exact ⟨Tryz.f537, by kernel_rfl, by kernel_rfl, by kernel_rfl, by kernel_rfl, trivial⟩
    · exact ⟨Tryz.f570, by kernel_rfl, by kernel_rfl, by kernel_rfl, by kernel_rfl, trivial⟩
    · exact ⟨Tryz.f571, by kernel_rfl, by kernel_rfl, by kernel_rfl, by kernel_rfl, trivial⟩
    · exact ⟨Tryz.f572, by kernel_rfl, by kernel_rfl, by kernel_rfl, by kernel_rfl, trivial⟩
    · exact ⟨Tryz.f573, by kernel_rfl, by kernel_rfl, by kernel_rfl, by kernel_rfl, trivial⟩
    · exact ⟨Tryz.f575, by kernel_rfl, by kernel_rfl, by kernel_rfl, by kernel_rfl, trivial⟩
    · exact ⟨Tryz.f576, by kernel_rfl, by kernel_rfl, by kernel_rfl, by kernel_rfl, trivial⟩
    · exact ⟨Tryz.f595, by kernel_rfl, by kernel_rfl, by kernel_rfl, by kernel_rfl, trivial⟩
    · exact ⟨Tryz.f657, by kernel_rfl, by kernel_rfl, by kernel_rfl, by kernel_rfl, trivial⟩
  srs p hp := by
    exact (List.not_mem_nil hp).elim
def t0 : List Row := []
theorem T0 : ∀ r ∈ t0, RowGood Tryz.prog r := Ev.rows_nil
/-- tributary/tributarylaw28.awake -/
def q0 : Row := ⟨21, [], bT⟩
theorem QG0 : RowGood Tryz.prog q0 := Q.awake.RG
def t1 : List Row := q0 :: t0
theorem T1 : ∀ r ∈ t1, RowGood Tryz.prog r := Ev.rows_cons QG0 T0
end Go.Proofs.YtlokchnadeldgaaGreatDoor.Q.FleetNone
