/- EdgeKnown: the law's walk: the evaluator reckons it, in the kernel, out of a table of 3 answers that it reckoned before. No conditions. -/
import Derived.Test.YtpgcinjjabchcacGreatDoorEv5
import Derived.Test.YtpgcinjjabchcacGreatDoorProg
import Derived.KernelRfl
set_option linter.unusedVariables false
namespace Go.Proofs.YtpgcinjjabchcacGreatDoor.Q
open Go.RowKit
open Go.Proofs.YtpgcinjjabchcacGreatDoor.Ev (sV Row RowGood)
def exts : List (Nat × Ev.Ext) := [(141, .count), (163, .indexByte)]
theorem draws : Tryz.prog.follows .mixedOrders = true := by kernel_rfl
theorem names : Ev.NameGood Tryz.prog := Ev.names_good (n := 189) (by kernel_rfl) (by decide +kernel)
theorem progOK : Ev.ProgOK Tryz.prog exts where
  draws := draws
  names := names
  exts p hp := by
    simp only [exts, List.mem_cons, List.not_mem_nil, or_false] at hp
    rcases hp with rfl | rfl
    · exact ⟨Tryz.f141, by kernel_rfl, by kernel_rfl, by kernel_rfl, by kernel_rfl⟩
    · exact ⟨Tryz.f163, by kernel_rfl, by kernel_rfl, by kernel_rfl, by kernel_rfl⟩
def t0 : List Row := []
theorem T0 : ∀ r ∈ t0, RowGood Tryz.prog r := Ev.rows_nil
/-- tributary/event.Check -/
def q0 : Row := ⟨75, [.agg ⟨[.int .i64 (2), .int .i64 (1), sV [102], .int .i64 (1), .int .i64 (0), .slice none 0 0, .slice none 0 0]⟩], .int .i64 (0)⟩
theorem QG0 : RowGood Tryz.prog q0 := Ev.row_good progOK T0 (fuel := 100000) (depth := 300) (nx := 64) (by decide) (by decide +kernel)
def t1 : List Row := q0 :: t0
theorem T1 : ∀ r ∈ t1, RowGood Tryz.prog r := Ev.rows_cons QG0 T0
/-- tributary/event.Check -/
def q1 : Row := ⟨75, [.agg ⟨[.int .i64 (1), .int .i64 (1), sV [103], .int .i64 (1), .int .i64 (0), .slice none 0 0, .slice none 0 0]⟩], .int .i64 (0)⟩
theorem QG1 : RowGood Tryz.prog q1 := Ev.row_good progOK T1 (fuel := 100000) (depth := 300) (nx := 64) (by decide) (by decide +kernel)
def t2 : List Row := q1 :: t1
theorem T2 : ∀ r ∈ t2, RowGood Tryz.prog r := Ev.rows_cons QG1 T1
/-- tributary/path.Less -/
def q2 : Row := ⟨60, [sV [102], sV [103]], .bool true⟩
theorem QG2 : RowGood Tryz.prog q2 := Ev.row_good progOK T2 (fuel := 100000) (depth := 300) (nx := 64) (by decide) (by decide +kernel)
def t3 : List Row := q2 :: t2
theorem T3 : ∀ r ∈ t3, RowGood Tryz.prog r := Ev.rows_cons QG2 T2
/-- tributary/tributarylaw20.EdgeKnown, the law -/
def r : Row := ⟨3, [], .bool true⟩
theorem RG : RowGood Tryz.prog r := Ev.row_good progOK T3 (fuel := 100000) (depth := 300) (nx := 64) (by decide) (by decide +kernel)
theorem walk_EdgeKnown (w : World) : Calls Tryz.prog 3 #[] w fun e w' => e = .returned (.bool true) ∧ Below w.heap.size w w' := Ev.RowGood.calls RG w
end Go.Proofs.YtpgcinjjabchcacGreatDoor.Q
