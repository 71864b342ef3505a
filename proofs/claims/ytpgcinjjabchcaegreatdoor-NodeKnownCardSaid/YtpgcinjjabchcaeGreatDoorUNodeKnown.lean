/- NodeKnown: the law's walk: the evaluator reckons it, in the kernel, out of a table of 5 answers that it reckoned before. No conditions. -/
import Derived.Test.YtpgcinjjabchcaeGreatDoorEv5
import Derived.Test.YtpgcinjjabchcaeGreatDoorProg
import Derived.KernelRfl
set_option linter.unusedVariables false
namespace Go.Proofs.YtpgcinjjabchcaeGreatDoor.Q
open Go.RowKit
open Go.Proofs.YtpgcinjjabchcaeGreatDoor.Ev (sV Row RowGood)
def exts : List (Nat × Ev.Ext) := [(172, .compare), (240, .count), (255, .indexByte)]
theorem draws : Tryz.prog.follows .mixedOrders = true := by kernel_rfl
theorem names : Ev.NameGood Tryz.prog := Ev.names_good (n := 290) (by kernel_rfl) (by decide +kernel)
theorem progOK : Ev.ProgOK Tryz.prog exts where
  draws := draws
  names := names
  exts p hp := by
    simp only [exts, List.mem_cons, List.not_mem_nil, or_false] at hp
    rcases hp with rfl | rfl | rfl
    · exact ⟨Tryz.f172, by kernel_rfl, by kernel_rfl, by kernel_rfl, by kernel_rfl⟩
    · exact ⟨Tryz.f240, by kernel_rfl, by kernel_rfl, by kernel_rfl, by kernel_rfl⟩
    · exact ⟨Tryz.f255, by kernel_rfl, by kernel_rfl, by kernel_rfl, by kernel_rfl⟩
def t0 : List Row := []
theorem T0 : ∀ r ∈ t0, RowGood Tryz.prog r := Ev.rows_nil
/-- tributary/node.Check -/
def q0 : Row := ⟨14, [.agg ⟨[.int .i64 (3), .int .i64 (3), .int .i64 (0), .int .i64 (0), .slice none 0 0, .slice none 0 0, .slice none 0 0, .slice none 0 0]⟩], .int .i64 (0)⟩
theorem QG0 : RowGood Tryz.prog q0 := Ev.row_good progOK T0 (fuel := 100000) (depth := 300) (nx := 64) (by decide) (by decide +kernel)
def t1 : List Row := q0 :: t0
theorem T1 : ∀ r ∈ t1, RowGood Tryz.prog r := Ev.rows_cons QG0 T0
/-- tributary/path.Check -/
def q1 : Row := ⟨52, [sV [102]], .int .i64 (0)⟩
theorem QG1 : RowGood Tryz.prog q1 := Ev.row_good progOK T1 (fuel := 100000) (depth := 300) (nx := 64) (by decide) (by decide +kernel)
def t2 : List Row := q1 :: t1
theorem T2 : ∀ r ∈ t2, RowGood Tryz.prog r := Ev.rows_cons QG1 T1
/-- tributary/event.Check -/
def q2 : Row := ⟨51, [.agg ⟨[.int .i64 (3), .int .i64 (1), sV [102], .int .i64 (1), .int .i64 (0), .slice none 0 0, .slice none 0 0]⟩], .int .i64 (0)⟩
theorem QG2 : RowGood Tryz.prog q2 := Ev.row_good progOK T2 (fuel := 100000) (depth := 300) (nx := 64) (by decide) (by decide +kernel)
def t3 : List Row := q2 :: t2
theorem T3 : ∀ r ∈ t3, RowGood Tryz.prog r := Ev.rows_cons QG2 T2
/-- tributary/effect.Same -/
def q3 : Row := ⟨50, [.agg ⟨[.int .i64 (0), .int .i64 (0), .slice none 0 0]⟩, .agg ⟨[.int .i64 (0), .int .i64 (0), .slice none 0 0]⟩], .bool true⟩
theorem QG3 : RowGood Tryz.prog q3 := Ev.row_good progOK T3 (fuel := 100000) (depth := 300) (nx := 64) (by decide) (by decide +kernel)
def t4 : List Row := q3 :: t3
theorem T4 : ∀ r ∈ t4, RowGood Tryz.prog r := Ev.rows_cons QG3 T3
/-- tributary/node.may -/
def q4 : Row := ⟨21, [.agg ⟨[.int .i64 (7), .int .i64 (2), .int .i64 (0), .int .i64 (0), sV [], .int .i64 (0), .int .i64 (0), .slice none 0 0, .slice none 0 0, sV [], .int .i64 (0), .int .i64 (0), .slice none 0 0, .slice none 0 0, .int .i64 (0), .int .i64 (0), .slice none 0 0]⟩], .bool true⟩
theorem QG4 : RowGood Tryz.prog q4 := Ev.row_good progOK T4 (fuel := 100000) (depth := 300) (nx := 64) (by decide) (by decide +kernel)
def t5 : List Row := q4 :: t4
theorem T5 : ∀ r ∈ t5, RowGood Tryz.prog r := Ev.rows_cons QG4 T4
/-- tributary/tributarylaw25.NodeKnown, the law -/
def r : Row := ⟨3, [], .bool true⟩
theorem RG : RowGood Tryz.prog r := Ev.row_good progOK T5 (fuel := 100000) (depth := 300) (nx := 64) (by decide) (by decide +kernel)
theorem walk_NodeKnown (w : World) : Calls Tryz.prog 3 #[] w fun e w' => e = .returned (.bool true) ∧ Below w.heap.size w w' := Ev.RowGood.calls RG w
end Go.Proofs.YtpgcinjjabchcaeGreatDoor.Q
