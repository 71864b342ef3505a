/- LedgerKnown: the law's walk: the evaluator reckons it, in the kernel, out of a table of 10 answers that it reckoned before. No conditions. -/
import Derived.Test.YtpgcinjjabchcabGreatDoorEv5
import Derived.Test.YtpgcinjjabchcabGreatDoorProg
import Derived.KernelRfl
set_option linter.unusedVariables false
namespace Go.Proofs.YtpgcinjjabchcabGreatDoor.Q
open Go.RowKit
open Go.Proofs.YtpgcinjjabchcabGreatDoor.Ev (sV Row RowGood)
def exts : List (Nat × Ev.Ext) := [(93, .compare), (125, .indexByte)]
theorem draws : Tryz.prog.follows .mixedOrders = true := by kernel_rfl
theorem names : Ev.NameGood Tryz.prog := Ev.names_good (n := 150) (by kernel_rfl) (by decide +kernel)
theorem progOK : Ev.ProgOK Tryz.prog exts where
  draws := draws
  names := names
  exts p hp := by
    simp only [exts, List.mem_cons, List.not_mem_nil, or_false] at hp
    rcases hp with rfl | rfl
    · exact ⟨Tryz.f93, by kernel_rfl, by kernel_rfl, by kernel_rfl, by kernel_rfl⟩
    · exact ⟨Tryz.f125, by kernel_rfl, by kernel_rfl, by kernel_rfl, by kernel_rfl⟩
def t0 : List Row := []
theorem T0 : ∀ r ∈ t0, RowGood Tryz.prog r := Ev.rows_nil
/-- tributary/path.part -/
def q0 : Row := ⟨88, [sV [102]], .bool true⟩
theorem QG0 : RowGood Tryz.prog q0 := Ev.row_good progOK T0 (fuel := 100000) (depth := 300) (nx := 64) (by decide) (by decide +kernel)
def t1 : List Row := q0 :: t0
theorem T1 : ∀ r ∈ t1, RowGood Tryz.prog r := Ev.rows_cons QG0 T0
/-- tributary/path.Check -/
def q1 : Row := ⟨77, [sV [102]], .int .i64 (0)⟩
theorem QG1 : RowGood Tryz.prog q1 := Ev.row_good progOK T1 (fuel := 100000) (depth := 300) (nx := 64) (by decide) (by decide +kernel)
def t2 : List Row := q1 :: t1
theorem T2 : ∀ r ∈ t2, RowGood Tryz.prog r := Ev.rows_cons QG1 T1
/-- tributary/event.Check -/
def q2 : Row := ⟨50, [.agg ⟨[.int .i64 (1), .int .i64 (1), sV [102], .int .i64 (1), .int .i64 (0), .slice none 0 0, .slice none 0 0]⟩], .int .i64 (0)⟩
theorem QG2 : RowGood Tryz.prog q2 := Ev.row_good progOK T2 (fuel := 100000) (depth := 300) (nx := 64) (by decide) (by decide +kernel)
def t3 : List Row := q2 :: t2
theorem T3 : ∀ r ∈ t3, RowGood Tryz.prog r := Ev.rows_cons QG2 T2
/-- tributary/event.Check -/
def q3 : Row := ⟨50, [.agg ⟨[.int .i64 (3), .int .i64 (1), sV [102], .int .i64 (2), .int .i64 (0), .slice none 0 0, .slice none 0 0]⟩], .int .i64 (0)⟩
theorem QG3 : RowGood Tryz.prog q3 := Ev.row_good progOK T3 (fuel := 100000) (depth := 300) (nx := 64) (by decide) (by decide +kernel)
def t4 : List Row := q3 :: t3
theorem T4 : ∀ r ∈ t4, RowGood Tryz.prog r := Ev.rows_cons QG3 T3
/-- tributary/clash.PairOf -/
def q4 : Row := ⟨38, [.agg ⟨[.int .i64 (1), .int .i64 (1), sV [102], .int .i64 (1), .int .i64 (0), .slice none 0 0, .slice none 0 0]⟩, .agg ⟨[.int .i64 (3), .int .i64 (1), sV [102], .int .i64 (2), .int .i64 (0), .slice none 0 0, .slice none 0 0]⟩], .tuple ⟨[.agg ⟨[.int .i64 (1), .int .i64 (1), .int .i64 (3), .int .i64 (1)]⟩, .int .i64 (0)]⟩⟩
theorem QG4 : RowGood Tryz.prog q4 := Ev.row_good progOK T4 (fuel := 100000) (depth := 300) (nx := 64) (by decide) (by decide +kernel)
def t5 : List Row := q4 :: t4
theorem T5 : ∀ r ∈ t5, RowGood Tryz.prog r := Ev.rows_cons QG4 T4
/-- tributary/path.Check -/
def q5 : Row := ⟨77, [sV [102, 47, 103]], .int .i64 (0)⟩
theorem QG5 : RowGood Tryz.prog q5 := Ev.row_good progOK T5 (fuel := 100000) (depth := 300) (nx := 64) (by decide) (by decide +kernel)
def t6 : List Row := q5 :: t5
theorem T6 : ∀ r ∈ t6, RowGood Tryz.prog r := Ev.rows_cons QG5 T5
/-- tributary/event.Check -/
def q6 : Row := ⟨50, [.agg ⟨[.int .i64 (4), .int .i64 (1), sV [102, 47, 103], .int .i64 (1), .int .i64 (0), .slice none 0 0, .slice none 0 0]⟩], .int .i64 (0)⟩
theorem QG6 : RowGood Tryz.prog q6 := Ev.row_good progOK T6 (fuel := 100000) (depth := 300) (nx := 64) (by decide) (by decide +kernel)
def t7 : List Row := q6 :: t6
theorem T7 : ∀ r ∈ t7, RowGood Tryz.prog r := Ev.rows_cons QG6 T6
/-- tributary/clash.PairOf -/
def q7 : Row := ⟨38, [.agg ⟨[.int .i64 (1), .int .i64 (1), sV [102], .int .i64 (1), .int .i64 (0), .slice none 0 0, .slice none 0 0]⟩, .agg ⟨[.int .i64 (4), .int .i64 (1), sV [102, 47, 103], .int .i64 (1), .int .i64 (0), .slice none 0 0, .slice none 0 0]⟩], .tuple ⟨[.agg ⟨[.int .i64 (1), .int .i64 (1), .int .i64 (4), .int .i64 (1)]⟩, .int .i64 (0)]⟩⟩
theorem QG7 : RowGood Tryz.prog q7 := Ev.row_good progOK T7 (fuel := 100000) (depth := 300) (nx := 64) (by decide) (by decide +kernel)
def t8 : List Row := q7 :: t7
theorem T8 : ∀ r ∈ t8, RowGood Tryz.prog r := Ev.rows_cons QG7 T7
/-- tributary/clash.PairOf -/
def q8 : Row := ⟨38, [.agg ⟨[.int .i64 (3), .int .i64 (1), sV [102], .int .i64 (2), .int .i64 (0), .slice none 0 0, .slice none 0 0]⟩, .agg ⟨[.int .i64 (4), .int .i64 (1), sV [102, 47, 103], .int .i64 (1), .int .i64 (0), .slice none 0 0, .slice none 0 0]⟩], .tuple ⟨[.agg ⟨[.int .i64 (0), .int .i64 (0), .int .i64 (0), .int .i64 (0)]⟩, .int .i64 (2)]⟩⟩
theorem QG8 : RowGood Tryz.prog q8 := Ev.row_good progOK T8 (fuel := 100000) (depth := 300) (nx := 64) (by decide) (by decide +kernel)
def t9 : List Row := q8 :: t8
theorem T9 : ∀ r ∈ t9, RowGood Tryz.prog r := Ev.rows_cons QG8 T8
/-- tributary/clash.order -/
def q9 : Row := ⟨40, [.agg ⟨[.int .i64 (1), .int .i64 (1), .int .i64 (4), .int .i64 (1)]⟩, .agg ⟨[.int .i64 (1), .int .i64 (1), .int .i64 (3), .int .i64 (1)]⟩], .int .i64 (1)⟩
theorem QG9 : RowGood Tryz.prog q9 := Ev.row_good progOK T9 (fuel := 100000) (depth := 300) (nx := 64) (by decide) (by decide +kernel)
def t10 : List Row := q9 :: t9
theorem T10 : ∀ r ∈ t10, RowGood Tryz.prog r := Ev.rows_cons QG9 T9
/-- tributary/tributarylaw22.LedgerKnown, the law -/
def r : Row := ⟨3, [], .bool true⟩
theorem RG : RowGood Tryz.prog r := Ev.row_good progOK T10 (fuel := 100000) (depth := 300) (nx := 64) (by decide) (by decide +kernel)
theorem walk_LedgerKnown (w : World) : Calls Tryz.prog 3 #[] w fun e w' => e = .returned (.bool true) ∧ Below w.heap.size w w' := Ev.RowGood.calls RG w
end Go.Proofs.YtpgcinjjabchcabGreatDoor.Q
