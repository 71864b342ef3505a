/- MatchKnown: the law's walk: the evaluator reckons it, in the kernel, out of tables of answers that it reckoned before (23 plain ones, 0 with their memory). No conditions. -/
import Derived.Test.YtocangegaonfeaaGreatDoorEv5
import Derived.Test.YtocangegaonfeaaGreatDoorProg
import Derived.KernelRfl
set_option linter.unusedVariables false
namespace Go.Proofs.YtocangegaonfeaaGreatDoor.Q
open Go.RowKit
open Go.Proofs.YtocangegaonfeaaGreatDoor.Ev (sV bV iV bL Row RowGood RowH RowHGood LO)
def exts : List (Nat × Ev.Ext) := [(201, .compare), (326, .count), (388, .indexByte)]
theorem draws : Tryz.prog.follows .mixedOrders = true := by kernel_rfl
theorem names : Ev.NameGood Tryz.prog := Ev.names_good (n := 437) (by kernel_rfl) (by decide +kernel)
theorem progOK : Ev.ProgOK Tryz.prog exts where
  draws := draws
  names := names
  exts p hp := by
    simp only [exts, List.mem_cons, List.not_mem_nil, or_false] at hp
    rcases hp with rfl | rfl | rfl
    · exact ⟨Tryz.f201, by kernel_rfl, by kernel_rfl, by kernel_rfl, by kernel_rfl⟩
    · exact ⟨Tryz.f326, by kernel_rfl, by kernel_rfl, by kernel_rfl, by kernel_rfl⟩
    · exact ⟨Tryz.f388, by kernel_rfl, by kernel_rfl, by kernel_rfl, by kernel_rfl⟩
def t0 : List Row := []
theorem T0 : ∀ r ∈ t0, RowGood Tryz.prog r := Ev.rows_nil
/-- tributary/store.Check -/
def q0 : Row := ⟨26, [.slice none 0 0], iV 0⟩
theorem QG0 : RowGood Tryz.prog q0 := Ev.row_good progOK T0 Ev.rowsH_nil (fuel := 100000) (depth := 300) (nx := 64) (by decide) (by decide +kernel)
def t1 : List Row := q0 :: t0
theorem T1 : ∀ r ∈ t1, RowGood Tryz.prog r := Ev.rows_cons QG0 T0
/-- tributary/shown.Check -/
def q1 : Row := ⟨27, [.slice none 0 0], iV 0⟩
theorem QG1 : RowGood Tryz.prog q1 := Ev.row_good progOK T1 Ev.rowsH_nil (fuel := 100000) (depth := 300) (nx := 64) (by decide) (by decide +kernel)
def t2 : List Row := q1 :: t1
theorem T2 : ∀ r ∈ t2, RowGood Tryz.prog r := Ev.rows_cons QG1 T1
/-- tributary/ledger.Check -/
def q2 : Row := ⟨28, [.slice none 0 0], iV 0⟩
theorem QG2 : RowGood Tryz.prog q2 := Ev.row_good progOK T2 Ev.rowsH_nil (fuel := 100000) (depth := 300) (nx := 64) (by decide) (by decide +kernel)
def t3 : List Row := q2 :: t2
theorem T3 : ∀ r ∈ t3, RowGood Tryz.prog r := Ev.rows_cons QG2 T2
/-- tributary/node.Check -/
def q3 : Row := ⟨12, [.agg ⟨[iV 2, iV 3, iV 0, iV 0, .slice none 0 0, .slice none 0 0, .slice none 0 0, .slice none 0 0]⟩], iV 0⟩
theorem QG3 : RowGood Tryz.prog q3 := Ev.row_good progOK T3 Ev.rowsH_nil (fuel := 100000) (depth := 300) (nx := 64) (by decide) (by decide +kernel)
def t4 : List Row := q3 :: t3
theorem T4 : ∀ r ∈ t4, RowGood Tryz.prog r := Ev.rows_cons QG3 T3
/-- tributary/node.Born -/
def q4 : Row := ⟨5, [iV 2, iV 3], .tuple ⟨[.agg ⟨[iV 2, iV 3, iV 0, iV 0, .slice none 0 0, .slice none 0 0, .slice none 0 0, .slice none 0 0]⟩, iV 0]⟩⟩
theorem QG4 : RowGood Tryz.prog q4 := Ev.row_good progOK T4 Ev.rowsH_nil (fuel := 100000) (depth := 300) (nx := 64) (by decide) (by decide +kernel)
def t5 : List Row := q4 :: t4
theorem T5 : ∀ r ∈ t5, RowGood Tryz.prog r := Ev.rows_cons QG4 T4
/-- tributary/node.own -/
def q5 : Row := ⟨24, [.agg ⟨[iV 2, iV 3, iV 0, iV 0, .slice none 0 0, .slice none 0 0, .slice none 0 0, .slice none 0 0]⟩], .agg ⟨[iV 2, iV 3, iV 0, iV 0, .slice none 0 0, .slice none 0 0, .slice none 0 0, .slice none 0 0]⟩⟩
theorem QG5 : RowGood Tryz.prog q5 := Ev.row_good progOK T5 Ev.rowsH_nil (fuel := 100000) (depth := 300) (nx := 64) (by decide) (by decide +kernel)
def t6 : List Row := q5 :: t5
theorem T6 : ∀ r ∈ t6, RowGood Tryz.prog r := Ev.rows_cons QG5 T5
/-- tributary/dot.Check -/
def q6 : Row := ⟨65, [.agg ⟨[iV 2, iV 1]⟩], iV 0⟩
theorem QG6 : RowGood Tryz.prog q6 := Ev.row_good progOK T6 Ev.rowsH_nil (fuel := 100000) (depth := 300) (nx := 64) (by decide) (by decide +kernel)
def t7 : List Row := q6 :: t6
theorem T7 : ∀ r ∈ t7, RowGood Tryz.prog r := Ev.rows_cons QG6 T6
/-- tributary/path.part -/
def q7 : Row := ⟨148, [sV [102]], .bool true⟩
theorem QG7 : RowGood Tryz.prog q7 := Ev.row_good progOK T7 Ev.rowsH_nil (fuel := 100000) (depth := 300) (nx := 64) (by decide) (by decide +kernel)
def t8 : List Row := q7 :: t7
theorem T8 : ∀ r ∈ t8, RowGood Tryz.prog r := Ev.rows_cons QG7 T7
/-- tributary/path.Check -/
def q8 : Row := ⟨103, [sV [102]], iV 0⟩
theorem QG8 : RowGood Tryz.prog q8 := Ev.row_good progOK T8 Ev.rowsH_nil (fuel := 100000) (depth := 300) (nx := 64) (by decide) (by decide +kernel)
def t9 : List Row := q8 :: t8
theorem T9 : ∀ r ∈ t9, RowGood Tryz.prog r := Ev.rows_cons QG8 T8
/-- tributary/effect.rules -/
def q9 : Row := ⟨149, [], .agg ⟨[iV 0, iV 0, iV 511, iV 1000, iV 511, iV 0, iV 0, iV 0]⟩⟩
theorem QG9 : RowGood Tryz.prog q9 := Ev.row_good progOK T9 Ev.rowsH_nil (fuel := 100000) (depth := 300) (nx := 64) (by decide) (by decide +kernel)
def t10 : List Row := q9 :: t9
theorem T10 : ∀ r ∈ t10, RowGood Tryz.prog r := Ev.rows_cons QG9 T9
/-- tributary/past.Check -/
def q10 : Row := ⟨68, [.slice none 0 0], iV 0⟩
theorem QG10 : RowGood Tryz.prog q10 := Ev.row_good progOK T10 Ev.rowsH_nil (fuel := 100000) (depth := 300) (nx := 64) (by decide) (by decide +kernel)
def t11 : List Row := q10 :: t10
theorem T11 : ∀ r ∈ t11, RowGood Tryz.prog r := Ev.rows_cons QG10 T10
/-- tributary/past.Last -/
def q11 : Row := ⟨175, [.slice none 0 0, iV 2], iV 0⟩
theorem QG11 : RowGood Tryz.prog q11 := Ev.row_good progOK T11 Ev.rowsH_nil (fuel := 100000) (depth := 300) (nx := 64) (by decide) (by decide +kernel)
def t12 : List Row := q11 :: t11
theorem T12 : ∀ r ∈ t12, RowGood Tryz.prog r := Ev.rows_cons QG11 T11
/-- tributary/past.Has -/
def q12 : Row := ⟨110, [.slice none 0 0, .agg ⟨[iV 2, iV 1]⟩], .bool false⟩
theorem QG12 : RowGood Tryz.prog q12 := Ev.row_good progOK T12 Ev.rowsH_nil (fuel := 100000) (depth := 300) (nx := 64) (by decide) (by decide +kernel)
def t13 : List Row := q12 :: t12
theorem T13 : ∀ r ∈ t13, RowGood Tryz.prog r := Ev.rows_cons QG12 T12
/-- tributary/path.Parent -/
def q13 : Row := ⟨150, [sV [102]], .tuple ⟨[sV [], .bool false]⟩⟩
theorem QG13 : RowGood Tryz.prog q13 := Ev.row_good progOK T13 Ev.rowsH_nil (fuel := 100000) (depth := 300) (nx := 64) (by decide) (by decide +kernel)
def t14 : List Row := q13 :: t13
theorem T14 : ∀ r ∈ t14, RowGood Tryz.prog r := Ev.rows_cons QG13 T13
/-- tributary/node.Check -/
def q14 : Row := ⟨12, [.agg ⟨[iV 1, iV 1, iV 0, iV 0, .slice none 0 0, .slice none 0 0, .slice none 0 0, .slice none 0 0]⟩], iV 0⟩
theorem QG14 : RowGood Tryz.prog q14 := Ev.row_good progOK T14 Ev.rowsH_nil (fuel := 100000) (depth := 300) (nx := 64) (by decide) (by decide +kernel)
def t15 : List Row := q14 :: t14
theorem T15 : ∀ r ∈ t15, RowGood Tryz.prog r := Ev.rows_cons QG14 T14
/-- tributary/node.Born -/
def q15 : Row := ⟨5, [iV 1, iV 1], .tuple ⟨[.agg ⟨[iV 1, iV 1, iV 0, iV 0, .slice none 0 0, .slice none 0 0, .slice none 0 0, .slice none 0 0]⟩, iV 0]⟩⟩
theorem QG15 : RowGood Tryz.prog q15 := Ev.row_good progOK T15 Ev.rowsH_nil (fuel := 100000) (depth := 300) (nx := 64) (by decide) (by decide +kernel)
def t16 : List Row := q15 :: t15
theorem T16 : ∀ r ∈ t16, RowGood Tryz.prog r := Ev.rows_cons QG15 T15
/-- tributary/past.Of -/
def q16 : Row := ⟨157, [.slice none 0 0], .tuple ⟨[.slice none 0 0, iV 0]⟩⟩
theorem QG16 : RowGood Tryz.prog q16 := Ev.row_good progOK T16 Ev.rowsH_nil (fuel := 100000) (depth := 300) (nx := 64) (by decide) (by decide +kernel)
def t17 : List Row := q16 :: t16
theorem T17 : ∀ r ∈ t17, RowGood Tryz.prog r := Ev.rows_cons QG16 T16
/-- tributary/past.Within -/
def q17 : Row := ⟨113, [.slice none 0 0, .slice none 0 0], .bool true⟩
theorem QG17 : RowGood Tryz.prog q17 := Ev.row_good progOK T17 Ev.rowsH_nil (fuel := 100000) (depth := 300) (nx := 64) (by decide) (by decide +kernel)
def t18 : List Row := q17 :: t17
theorem T18 : ∀ r ∈ t18, RowGood Tryz.prog r := Ev.rows_cons QG17 T17
/-- tributary/match.own -/
def q18 : Row := ⟨40, [.agg ⟨[iV 1, iV 1, iV 0, iV 0, .slice none 0 0, .slice none 0 0, .slice none 0 0, .slice none 0 0]⟩], .agg ⟨[iV 1, iV 1, iV 0, iV 0, .slice none 0 0, .slice none 0 0, .slice none 0 0, .slice none 0 0]⟩⟩
theorem QG18 : RowGood Tryz.prog q18 := Ev.row_good progOK T18 Ev.rowsH_nil (fuel := 100000) (depth := 300) (nx := 64) (by decide) (by decide +kernel)
def t19 : List Row := q18 :: t18
theorem T19 : ∀ r ∈ t19, RowGood Tryz.prog r := Ev.rows_cons QG18 T18
/-- tributary/match.own -/
def q19 : Row := ⟨40, [.agg ⟨[iV 2, iV 3, iV 0, iV 0, .slice none 0 0, .slice none 0 0, .slice none 0 0, .slice none 0 0]⟩], .agg ⟨[iV 2, iV 3, iV 0, iV 0, .slice none 0 0, .slice none 0 0, .slice none 0 0, .slice none 0 0]⟩⟩
theorem QG19 : RowGood Tryz.prog q19 := Ev.row_good progOK T19 Ev.rowsH_nil (fuel := 100000) (depth := 300) (nx := 64) (by decide) (by decide +kernel)
def t20 : List Row := q19 :: t19
theorem T20 : ∀ r ∈ t20, RowGood Tryz.prog r := Ev.rows_cons QG19 T19
/-- tributary/shown.Past -/
def q20 : Row := ⟨160, [.slice none 0 0, sV [102]], .tuple ⟨[.slice none 0 0, iV 0]⟩⟩
theorem QG20 : RowGood Tryz.prog q20 := Ev.row_good progOK T20 Ev.rowsH_nil (fuel := 100000) (depth := 300) (nx := 64) (by decide) (by decide +kernel)
def t21 : List Row := q20 :: t20
theorem T21 : ∀ r ∈ t21, RowGood Tryz.prog r := Ev.rows_cons QG20 T20
/-- math/bits.Len -/
def q21 : Row := ⟨249, [.int .u64 (.ofNat 1)], iV 1⟩
theorem QG21 : RowGood Tryz.prog q21 := Ev.row_good progOK T21 Ev.rowsH_nil (fuel := 100000) (depth := 300) (nx := 64) (by decide) (by decide +kernel)
def t22 : List Row := q21 :: t21
theorem T22 : ∀ r ∈ t22, RowGood Tryz.prog r := Ev.rows_cons QG21 T21
/-- tributary/tributarylaw30.awake -/
def q22 : Row := ⟨10, [], .bool true⟩
theorem QG22 : RowGood Tryz.prog q22 := Ev.row_good progOK T22 Ev.rowsH_nil (fuel := 100000) (depth := 300) (nx := 64) (by decide) (by decide +kernel)
def t23 : List Row := q22 :: t22
theorem T23 : ∀ r ∈ t23, RowGood Tryz.prog r := Ev.rows_cons QG22 T22
def u0 : List RowH := []
theorem U0 : ∀ p ∈ u0, RowHGood Tryz.prog p.g p.r := Ev.rowsH_nil
def r : Row := ⟨3, [], .bool true⟩
theorem RG : RowGood Tryz.prog r := Ev.row_good progOK T23 U0 (fuel := 100000) (depth := 300) (nx := 64) (by decide) (by decide +kernel)
theorem walk_MatchKnown (w : World) : Calls Tryz.prog 3 #[] w fun e w' => e = .returned (.bool true) ∧ Below w.heap.size w w' := Ev.RowGood.calls RG w
end Go.Proofs.YtocangegaonfeaaGreatDoor.Q
