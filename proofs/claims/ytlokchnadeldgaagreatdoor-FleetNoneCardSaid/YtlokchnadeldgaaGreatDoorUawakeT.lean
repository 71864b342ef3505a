/- awake: what the law's evaluation asks of the program once, and a table of 27 answers that the evaluator reckoned, in the kernel. No conditions. -/
import Derived.Test.YtlokchnadeldgaaGreatDoorEv5
import Derived.Test.YtlokchnadeldgaaGreatDoorProg
import Derived.KernelRfl
set_option linter.unusedVariables false
namespace Go.Proofs.YtlokchnadeldgaaGreatDoor.Q.awake
open Go.RowKit
open Go.Proofs.YtlokchnadeldgaaGreatDoor.Ev (sV bV iV bL tL sl sx pt mp nS nP nM u3 u6 i3 bT bF ag K0 K1 Fm Row RowGood RowH RowHGood LO)
def exts : List (Nat × Ev.Ext) := [(150, .astore), (152, .astore), (197, .aload .i64), (198, .aswap .u32), (246, .aadd .i64), (370, .aload .u32), (448, .compare), (537, .acas .i64), (570, .quiet 0), (571, .acas .i32), (572, .quiet 1), (573, .race 0), (575, .race 2), (576, .aadd .i32), (595, .count), (657, .indexByte)]
def srs : List (Nat × Nat × Bool) := []
theorem draws : Tryz.prog.follows .mixedOrders = true := by kernel_rfl
theorem names : Ev.NameGood Tryz.prog := Ev.names_good (n := 773) (by kernel_rfl) (by decide +kernel)
theorem progOK : Ev.ProgOK Tryz.prog exts srs where
  draws := draws
  names := names
  exts p hp := by
    simp only [exts, List.mem_cons, List.not_mem_nil, or_false] at hp
    rcases hp with rfl | rfl | rfl | rfl | rfl | rfl | rfl | rfl | rfl | rfl | rfl | rfl | rfl | rfl | rfl | rfl
    · exact ⟨Tryz.f150, by kernel_rfl, by kernel_rfl, by kernel_rfl, by kernel_rfl, trivial⟩
    · exact ⟨Tryz.f152, by kernel_rfl, by kernel_rfl, by kernel_rfl, by kernel_rfl, trivial⟩
    · exact ⟨Tryz.f197, by kernel_rfl, by kernel_rfl, by kernel_rfl, by kernel_rfl, trivial⟩
    · exact ⟨Tryz.f198, by kernel_rfl, by kernel_rfl, by kernel_rfl, by kernel_rfl, trivial⟩
    · exact ⟨Tryz.f246, by kernel_rfl, by kernel_rfl, by kernel_rfl, by kernel_rfl, trivial⟩
    · exact ⟨Tryz.f370, by kernel_rfl, by kernel_rfl, by kernel_rfl, by kernel_rfl, trivial⟩
    · exact ⟨Tryz.f448, by kernel_rfl, by kernel_rfl, by kernel_rfl, by kernel_rfl, trivial⟩
    · exact ⟨Tryz.f537, by kernel_rfl, by kernel_rfl, by kernel_rfl, by kernel_rfl, trivial⟩
    · exact ⟨Tryz.f570, by kernel_rfl, by kernel_rfl, by kernel_rfl, by kernel_rfl, trivial⟩
    · exact ⟨Tryz.f571, by kernel_rfl, by kernel_rfl, by kernel_rfl, by kernel_rfl, trivial⟩
    · exact ⟨Tryz.f572, by kernel_rfl, by kernel_rfl, by kernel_rfl, by kernel_rfl, trivial⟩
    · exact ⟨Tryz.f573, by kernel_rfl, by kernel_rfl, by kernel_rfl, by kernel_rfl, trivial⟩
    · exact ⟨Tryz.f575, by kernel_rfl, by kernel_rfl, by kernel_rfl, by kernel_rfl, trivial⟩
    · exact ⟨Tryz.f576, by kernel_rfl, by kernel_rfl, by kernel_rfl, by kernel_rfl, trivial⟩
    · exact ⟨Tryz.f595, by kernel_rfl, by kernel_rfl, by kernel_rfl, by kernel_rfl, trivial⟩
    · exact ⟨Tryz.f657, by kernel_rfl, by kernel_rfl, by kernel_rfl, by kernel_rfl, trivial⟩
  srs p hp := by
    exact (List.not_mem_nil hp).elim
def t0 : List Row := []
theorem T0 : ∀ r ∈ t0, RowGood Tryz.prog r := Ev.rows_nil
/-- tributary/store.Check -/
def q0 : Row := ⟨156, [nS], iV 0⟩
theorem QG0 : RowGood Tryz.prog q0 := Ev.row_good progOK T0 Ev.rowsH_nil (fuel := 100000) (depth := 300) (nx := 64) (by decide) (by decide +kernel)
def t1 : List Row := q0 :: t0
theorem T1 : ∀ r ∈ t1, RowGood Tryz.prog r := Ev.rows_cons QG0 T0
/-- tributary/node.Check -/
def q1 : Row := ⟨81, [ag [iV 1, iV 1, iV 0, iV 0, nS, nS, nS, nS]], iV 0⟩
theorem QG1 : RowGood Tryz.prog q1 := Ev.row_good progOK T1 Ev.rowsH_nil (fuel := 100000) (depth := 300) (nx := 64) (by decide) (by decide +kernel)
def t2 : List Row := q1 :: t1
theorem T2 : ∀ r ∈ t2, RowGood Tryz.prog r := Ev.rows_cons QG1 T1
/-- tributary/effect.Same -/
def q2 : Row := ⟨110, [ag [iV 0, iV 0, nS], ag [iV 0, iV 0, nS]], bT⟩
theorem QG2 : RowGood Tryz.prog q2 := Ev.row_good progOK T2 Ev.rowsH_nil (fuel := 100000) (depth := 300) (nx := 64) (by decide) (by decide +kernel)
def t3 : List Row := q2 :: t2
theorem T3 : ∀ r ∈ t3, RowGood Tryz.prog r := Ev.rows_cons QG2 T2
/-- tributary/node.may -/
def q3 : Row := ⟨191, [ag [iV 7, iV 1, iV 0, iV 0, sV [], iV 0, iV 0, nS, nS, sV [], iV 0, iV 0, nS, nS, iV 0, iV 0, nS]], bT⟩
theorem QG3 : RowGood Tryz.prog q3 := Ev.row_good progOK T3 Ev.rowsH_nil (fuel := 100000) (depth := 300) (nx := 64) (by decide) (by decide +kernel)
def t4 : List Row := q3 :: t3
theorem T4 : ∀ r ∈ t4, RowGood Tryz.prog r := Ev.rows_cons QG3 T3
/-- tributary/node.Check -/
def q4 : Row := ⟨81, [ag [iV 2, iV 2, iV 0, iV 0, nS, nS, nS, nS]], iV 0⟩
theorem QG4 : RowGood Tryz.prog q4 := Ev.row_good progOK T4 Ev.rowsH_nil (fuel := 100000) (depth := 300) (nx := 64) (by decide) (by decide +kernel)
def t5 : List Row := q4 :: t4
theorem T5 : ∀ r ∈ t5, RowGood Tryz.prog r := Ev.rows_cons QG4 T4
/-- tributary/node.Born -/
def q5 : Row := ⟨264, [iV 2, iV 2], .tuple ⟨[ag [iV 2, iV 2, iV 0, iV 0, nS, nS, nS, nS], iV 0]⟩⟩
theorem QG5 : RowGood Tryz.prog q5 := Ev.row_good progOK T5 Ev.rowsH_nil (fuel := 100000) (depth := 300) (nx := 64) (by decide) (by decide +kernel)
def t6 : List Row := q5 :: t5
theorem T6 : ∀ r ∈ t6, RowGood Tryz.prog r := Ev.rows_cons QG5 T5
/-- tributary/node.own -/
def q6 : Row := ⟨82, [ag [iV 2, iV 2, iV 0, iV 0, nS, nS, nS, nS]], ag [iV 2, iV 2, iV 0, iV 0, nS, nS, nS, nS]⟩
theorem QG6 : RowGood Tryz.prog q6 := Ev.row_good progOK T6 Ev.rowsH_nil (fuel := 100000) (depth := 300) (nx := 64) (by decide) (by decide +kernel)
def t7 : List Row := q6 :: t6
theorem T7 : ∀ r ∈ t7, RowGood Tryz.prog r := Ev.rows_cons QG6 T6
/-- tributary/node.Apply -/
def q7 : Row := ⟨44, [ag [iV 2, iV 2, iV 0, iV 0, nS, nS, nS, nS], ag [iV 7, iV 1, iV 0, iV 0, sV [], iV 0, iV 0, nS, nS, sV [], iV 0, iV 0, nS, nS, iV 0, iV 0, nS]], .tuple ⟨[ag [iV 2, iV 2, iV 0, iV 1, nS, nS, nS, nS], iV 0]⟩⟩
theorem QG7 : RowGood Tryz.prog q7 := Ev.row_good progOK T7 Ev.rowsH_nil (fuel := 100000) (depth := 300) (nx := 64) (by decide) (by decide +kernel)
def t8 : List Row := q7 :: t7
theorem T8 : ∀ r ∈ t8, RowGood Tryz.prog r := Ev.rows_cons QG7 T7
/-- tributary/node.may -/
def q8 : Row := ⟨191, [ag [iV 7, iV 2, iV 0, iV 0, sV [], iV 0, iV 0, nS, nS, sV [], iV 0, iV 0, nS, nS, iV 0, iV 0, nS]], bT⟩
theorem QG8 : RowGood Tryz.prog q8 := Ev.row_good progOK T8 Ev.rowsH_nil (fuel := 100000) (depth := 300) (nx := 64) (by decide) (by decide +kernel)
def t9 : List Row := q8 :: t8
theorem T9 : ∀ r ∈ t9, RowGood Tryz.prog r := Ev.rows_cons QG8 T8
/-- tributary/node.ownArchive -/
def q9 : Row := ⟨186, [ag [iV 2, nS]], ag [iV 2, nS]⟩
theorem QG9 : RowGood Tryz.prog q9 := Ev.row_good progOK T9 Ev.rowsH_nil (fuel := 100000) (depth := 300) (nx := 64) (by decide) (by decide +kernel)
def t10 : List Row := q9 :: t9
theorem T10 : ∀ r ∈ t10, RowGood Tryz.prog r := Ev.rows_cons QG9 T9
/-- tributary/edge.Check -/
def q10 : Row := ⟨180, [ag [iV 2, nS]], iV 0⟩
theorem QG10 : RowGood Tryz.prog q10 := Ev.row_good progOK T10 Ev.rowsH_nil (fuel := 100000) (depth := 300) (nx := 64) (by decide) (by decide +kernel)
def t11 : List Row := q10 :: t10
theorem T11 : ∀ r ∈ t11, RowGood Tryz.prog r := Ev.rows_cons QG10 T10
/-- tributary/node.may -/
def q11 : Row := ⟨191, [ag [iV 4, iV 2, iV 0, iV 0, sV [], iV 0, iV 0, nS, nS, sV [], iV 0, iV 0, nS, nS, iV 0, iV 0, nS]], bT⟩
theorem QG11 : RowGood Tryz.prog q11 := Ev.row_good progOK T11 Ev.rowsH_nil (fuel := 100000) (depth := 300) (nx := 64) (by decide) (by decide +kernel)
def t12 : List Row := q11 :: t11
theorem T12 : ∀ r ∈ t12, RowGood Tryz.prog r := Ev.rows_cons QG11 T11
/-- tributary/node.Check -/
def q12 : Row := ⟨81, [ag [iV 2, iV 2, iV 0, iV 1, nS, nS, nS, nS]], iV 0⟩
theorem QG12 : RowGood Tryz.prog q12 := Ev.row_good progOK T12 Ev.rowsH_nil (fuel := 100000) (depth := 300) (nx := 64) (by decide) (by decide +kernel)
def t13 : List Row := q12 :: t12
theorem T13 : ∀ r ∈ t13, RowGood Tryz.prog r := Ev.rows_cons QG12 T12
/-- tributary/node.own -/
def q13 : Row := ⟨82, [ag [iV 2, iV 2, iV 0, iV 1, nS, nS, nS, nS]], ag [iV 2, iV 2, iV 0, iV 1, nS, nS, nS, nS]⟩
theorem QG13 : RowGood Tryz.prog q13 := Ev.row_good progOK T13 Ev.rowsH_nil (fuel := 100000) (depth := 300) (nx := 64) (by decide) (by decide +kernel)
def t14 : List Row := q13 :: t13
theorem T14 : ∀ r ∈ t14, RowGood Tryz.prog r := Ev.rows_cons QG13 T13
/-- tributary/node.Replay -/
def q14 : Row := ⟨32, [ag [iV 2, iV 2, iV 0, iV 1, nS, nS, nS, nS], nS], .tuple ⟨[ag [iV 2, iV 2, iV 0, iV 1, nS, nS, nS, nS], iV 0]⟩⟩
theorem QG14 : RowGood Tryz.prog q14 := Ev.row_good progOK T14 Ev.rowsH_nil (fuel := 100000) (depth := 300) (nx := 64) (by decide) (by decide +kernel)
def t15 : List Row := q14 :: t14
theorem T15 : ∀ r ∈ t15, RowGood Tryz.prog r := Ev.rows_cons QG14 T14
/-- tributary/node.ownArchive -/
def q15 : Row := ⟨186, [ag [iV 1, nS]], ag [iV 1, nS]⟩
theorem QG15 : RowGood Tryz.prog q15 := Ev.row_good progOK T15 Ev.rowsH_nil (fuel := 100000) (depth := 300) (nx := 64) (by decide) (by decide +kernel)
def t16 : List Row := q15 :: t15
theorem T16 : ∀ r ∈ t16, RowGood Tryz.prog r := Ev.rows_cons QG15 T15
/-- tributary/edge.Check -/
def q16 : Row := ⟨180, [ag [iV 1, nS]], iV 0⟩
theorem QG16 : RowGood Tryz.prog q16 := Ev.row_good progOK T16 Ev.rowsH_nil (fuel := 100000) (depth := 300) (nx := 64) (by decide) (by decide +kernel)
def t17 : List Row := q16 :: t16
theorem T17 : ∀ r ∈ t17, RowGood Tryz.prog r := Ev.rows_cons QG16 T16
/-- tributary/node.may -/
def q17 : Row := ⟨191, [ag [iV 4, iV 1, iV 0, iV 0, sV [], iV 0, iV 0, nS, nS, sV [], iV 0, iV 0, nS, nS, iV 0, iV 0, nS]], bT⟩
theorem QG17 : RowGood Tryz.prog q17 := Ev.row_good progOK T17 Ev.rowsH_nil (fuel := 100000) (depth := 300) (nx := 64) (by decide) (by decide +kernel)
def t18 : List Row := q17 :: t17
theorem T18 : ∀ r ∈ t18, RowGood Tryz.prog r := Ev.rows_cons QG17 T17
/-- tributary/node.Check -/
def q18 : Row := ⟨81, [ag [iV 3, iV 3, iV 0, iV 0, nS, nS, nS, nS]], iV 0⟩
theorem QG18 : RowGood Tryz.prog q18 := Ev.row_good progOK T18 Ev.rowsH_nil (fuel := 100000) (depth := 300) (nx := 64) (by decide) (by decide +kernel)
def t19 : List Row := q18 :: t18
theorem T19 : ∀ r ∈ t19, RowGood Tryz.prog r := Ev.rows_cons QG18 T18
/-- tributary/node.Born -/
def q19 : Row := ⟨264, [iV 3, iV 3], .tuple ⟨[ag [iV 3, iV 3, iV 0, iV 0, nS, nS, nS, nS], iV 0]⟩⟩
theorem QG19 : RowGood Tryz.prog q19 := Ev.row_good progOK T19 Ev.rowsH_nil (fuel := 100000) (depth := 300) (nx := 64) (by decide) (by decide +kernel)
def t20 : List Row := q19 :: t19
theorem T20 : ∀ r ∈ t20, RowGood Tryz.prog r := Ev.rows_cons QG19 T19
/-- tributary/node.own -/
def q20 : Row := ⟨82, [ag [iV 3, iV 3, iV 0, iV 0, nS, nS, nS, nS]], ag [iV 3, iV 3, iV 0, iV 0, nS, nS, nS, nS]⟩
theorem QG20 : RowGood Tryz.prog q20 := Ev.row_good progOK T20 Ev.rowsH_nil (fuel := 100000) (depth := 300) (nx := 64) (by decide) (by decide +kernel)
def t21 : List Row := q20 :: t20
theorem T21 : ∀ r ∈ t21, RowGood Tryz.prog r := Ev.rows_cons QG20 T20
/-- tributary/node.Apply -/
def q21 : Row := ⟨44, [ag [iV 3, iV 3, iV 0, iV 0, nS, nS, nS, nS], ag [iV 7, iV 1, iV 0, iV 0, sV [], iV 0, iV 0, nS, nS, sV [], iV 0, iV 0, nS, nS, iV 0, iV 0, nS]], .tuple ⟨[ag [iV 3, iV 3, iV 0, iV 1, nS, nS, nS, nS], iV 0]⟩⟩
theorem QG21 : RowGood Tryz.prog q21 := Ev.row_good progOK T21 Ev.rowsH_nil (fuel := 100000) (depth := 300) (nx := 64) (by decide) (by decide +kernel)
def t22 : List Row := q21 :: t21
theorem T22 : ∀ r ∈ t22, RowGood Tryz.prog r := Ev.rows_cons QG21 T21
/-- tributary/node.may -/
def q22 : Row := ⟨191, [ag [iV 7, iV 3, iV 0, iV 0, sV [], iV 0, iV 0, nS, nS, sV [], iV 0, iV 0, nS, nS, iV 0, iV 0, nS]], bT⟩
theorem QG22 : RowGood Tryz.prog q22 := Ev.row_good progOK T22 Ev.rowsH_nil (fuel := 100000) (depth := 300) (nx := 64) (by decide) (by decide +kernel)
def t23 : List Row := q22 :: t22
theorem T23 : ∀ r ∈ t23, RowGood Tryz.prog r := Ev.rows_cons QG22 T22
/-- tributary/node.Check -/
def q23 : Row := ⟨81, [ag [iV 3, iV 3, iV 0, iV 1, nS, nS, nS, nS]], iV 0⟩
theorem QG23 : RowGood Tryz.prog q23 := Ev.row_good progOK T23 Ev.rowsH_nil (fuel := 100000) (depth := 300) (nx := 64) (by decide) (by decide +kernel)
def t24 : List Row := q23 :: t23
theorem T24 : ∀ r ∈ t24, RowGood Tryz.prog r := Ev.rows_cons QG23 T23
/-- tributary/node.own -/
def q24 : Row := ⟨82, [ag [iV 3, iV 3, iV 0, iV 1, nS, nS, nS, nS]], ag [iV 3, iV 3, iV 0, iV 1, nS, nS, nS, nS]⟩
theorem QG24 : RowGood Tryz.prog q24 := Ev.row_good progOK T24 Ev.rowsH_nil (fuel := 100000) (depth := 300) (nx := 64) (by decide) (by decide +kernel)
def t25 : List Row := q24 :: t24
theorem T25 : ∀ r ∈ t25, RowGood Tryz.prog r := Ev.rows_cons QG24 T24
/-- tributary/path.part -/
def q25 : Row := ⟨272, [sV [102]], bT⟩
theorem QG25 : RowGood Tryz.prog q25 := Ev.row_good progOK T25 Ev.rowsH_nil (fuel := 100000) (depth := 300) (nx := 64) (by decide) (by decide +kernel)
def t26 : List Row := q25 :: t25
theorem T26 : ∀ r ∈ t26, RowGood Tryz.prog r := Ev.rows_cons QG25 T25
/-- tributary/dot.Check -/
def q26 : Row := ⟨157, [ag [iV 3, iV 1]], iV 0⟩
theorem QG26 : RowGood Tryz.prog q26 := Ev.row_good progOK T26 Ev.rowsH_nil (fuel := 100000) (depth := 300) (nx := 64) (by decide) (by decide +kernel)
def t27 : List Row := q26 :: t26
theorem T27 : ∀ r ∈ t27, RowGood Tryz.prog r := Ev.rows_cons QG26 T26
def d0 : LO := K0 [iV 1, iV 1, iV 0, iV 0, nS, nS, nS, nS]
def d1 : LO := K0 [iV 1, iV 1, iV 0, iV 1, nS, nS, nS, nS]
def d2 : LO := K0 [iV 7, iV 1, iV 0, iV 0, sV [], iV 0, iV 0, nS, nS, sV [], iV 0, iV 0, nS, nS, iV 0, iV 0, nS]
def d3 : LO := K0 [.func (.func 425) ⟨[]⟩ ⟨[pt 373 0]⟩, .func (.func 426) ⟨[]⟩ ⟨[pt 374 0, pt 375 0, pt 373 0]⟩]
def d4 : LO := K0 [.nilFunc, .func (.func 233) ⟨[]⟩ ⟨[]⟩, .func (.func 234) ⟨[]⟩ ⟨[]⟩, .func (.func 235) ⟨[]⟩ ⟨[]⟩, .func (.func 236) ⟨[]⟩ ⟨[]⟩, .func (.func 237) ⟨[]⟩ ⟨[]⟩, .func (.func 238) ⟨[]⟩ ⟨[]⟩, .func (.func 239) ⟨[]⟩ ⟨[]⟩, .func (.func 240) ⟨[]⟩ ⟨[]⟩]
def d5 : LO := K0 [bT, iV 1000, iV 100, nP, iV 0, iV 0, iV 0]
def d6 : LO := K0 [iV 7, iV 2, iV 0, iV 0, sV [], iV 0, iV 0, nS, nS, sV [], iV 0, iV 0, nS, nS, iV 0, iV 0, nS]
def d7 : LO := K0 [iV 1, iV 1, iV 0, iV 2, nS, nS, nS, nS]
def d8 : LO := K0 [iV 2, iV 2, iV 0, iV 1, nS, nS, nS, nS]
def d9 : LO := K0 [.func (.func 425) ⟨[]⟩ ⟨[pt 349 0]⟩, .func (.func 426) ⟨[]⟩ ⟨[pt 350 0, pt 351 0, pt 349 0]⟩]
def d10 : LO := K0 [iV 2, iV 2, iV 0, iV 2, nS, nS, nS, nS]
def d11 : LO := K0 [.func (.func 425) ⟨[]⟩ ⟨[pt 512 0]⟩, .func (.func 426) ⟨[]⟩ ⟨[pt 513 0, pt 514 0, pt 512 0]⟩]
def d12 : LO := K0 [iV 7, iV 3, iV 0, iV 0, sV [], iV 0, iV 0, nS, nS, sV [], iV 0, iV 0, nS, nS, iV 0, iV 0, nS]
def d13 : LO := K0 [iV 2, iV 2, iV 0, iV 3, nS, nS, sl 148 0 2 1 1, nS]
def d14 : LO := K0 [iV 2, iV 2, iV 0, iV 2, nS, nS, sl 77 0 2 1 1, nS]
def d15 : LO := K0 [iV 2, iV 2, iV 0, iV 2, nS, nS, sl 148 0 2 1 1, nS]
def d16 : LO := K0 [.func (.func 425) ⟨[]⟩ ⟨[pt 190 0]⟩, .func (.func 426) ⟨[]⟩ ⟨[pt 191 0, pt 192 0, pt 190 0]⟩]
def d17 : LO := K0 [pt 62 0, sV [110], u3 1, i3 0, u3 0, iV 0, iV 0, nS, sl 76 0 1 3 3, bF]
def d18 : LO := K0 [iV 6, iV 1, iV 0, iV 0, sV [], iV 0, iV 0, nS, nS, sV [], iV 0, iV 0, nS, nS, iV 0, iV 0, nS]
def d19 : LO := K0 [.func (.func 425) ⟨[]⟩ ⟨[pt 212 0]⟩, .func (.func 426) ⟨[]⟩ ⟨[pt 213 0, pt 214 0, pt 212 0]⟩]
def d20 : LO := K0 [.func (.func 425) ⟨[]⟩ ⟨[pt 229 0]⟩, .func (.func 426) ⟨[]⟩ ⟨[pt 230 0, pt 231 0, pt 229 0]⟩]
def d21 : LO := K0 [.func (.func 421) ⟨[]⟩ ⟨[pt 234 0, pt 233 0]⟩, .func (.func 422) ⟨[]⟩ ⟨[pt 235 0, pt 233 0]⟩]
def d22 : LO := K0 [iV 2, iV 2, iV 0, iV 3, nS, nS, sl 150 0 2 1 1, nS]
def d23 : LO := K0 [iV 2, iV 2, iV 0, iV 2, nS, nS, sl 76 0 2 1 1, nS]
def d24 : LO := K0 [iV 2, iV 2, iV 0, iV 2, nS, nS, sl 150 0 2 1 1, nS]
def d25 : LO := K0 [.func (.func 425) ⟨[]⟩ ⟨[pt 192 0]⟩, .func (.func 426) ⟨[]⟩ ⟨[pt 193 0, pt 194 0, pt 192 0]⟩]
def d26 : LO := K0 [iV 3, iV 3, iV 0, iV 1, nS, nS, nS, nS]
def d27 : LO := K0 [.func (.func 425) ⟨[]⟩ ⟨[pt 351 0]⟩, .func (.func 426) ⟨[]⟩ ⟨[pt 352 0, pt 353 0, pt 351 0]⟩]
def d28 : LO := K0 [iV 3, iV 3, iV 0, iV 2, nS, nS, nS, nS]
def d29 : LO := K0 [.func (.func 425) ⟨[]⟩ ⟨[pt 544 0]⟩, .func (.func 426) ⟨[]⟩ ⟨[pt 545 0, pt 546 0, pt 544 0]⟩]
def d30 : LO := K0 [iV 2, iV 0, nS, bF, iV 0, nS, bF, iV 0, nS, bF, iV 0, nS, bF, iV 0, nS, bF, iV 0, nS, bF, iV 0, nS, bF, iV 0, nS, bF, iV 0, iV 1, iV 0, iV 0, u3 1, nS, iV 0]
def d31 : LO := K0 [iV 3, iV 3, iV 0, iV 3, nS, nS, sl 149 0 2 1 1, nS]
def d32 : LO := K0 [iV 3, iV 3, iV 0, iV 2, nS, nS, sl 78 0 2 1 1, nS]
def d33 : LO := K0 [iV 3, iV 3, iV 0, iV 2, nS, nS, sl 149 0 2 1 1, nS]
def d34 : LO := K0 [.func (.func 425) ⟨[]⟩ ⟨[pt 191 0]⟩, .func (.func 426) ⟨[]⟩ ⟨[pt 192 0, pt 193 0, pt 191 0]⟩]
def d35 : LO := K0 [iV 3, iV 3, iV 0, iV 2, nS, nS, sl 1189 0 2 1 1, nS]
def d36 : LO := K0 [.func (.func 425) ⟨[]⟩ ⟨[pt 422 0]⟩, .func (.func 426) ⟨[]⟩ ⟨[pt 423 0, pt 424 0, pt 422 0]⟩]
def d37 : LO := K0 [iV 4, iV 2, iV 0, iV 0, sV [], iV 0, iV 0, nS, nS, sV [], iV 0, iV 0, nS, nS, iV 0, iV 0, nS]
def d38 : LO := K0 [.func (.func 425) ⟨[]⟩ ⟨[pt 633 0]⟩, .func (.func 426) ⟨[]⟩ ⟨[pt 634 0, pt 635 0, pt 633 0]⟩]
def d39 : LO := K0 [.func (.func 421) ⟨[]⟩ ⟨[pt 638 0, pt 637 0]⟩, .func (.func 422) ⟨[]⟩ ⟨[pt 639 0, pt 637 0]⟩]
def d40 : LO := K0 [iV 3, iV 3, iV 0, iV 1, nS, nS, sl 931 0 2 1 1, nS]
def d41 : LO := K0 [.func (.func 425) ⟨[]⟩ ⟨[pt 1018 0]⟩, .func (.func 426) ⟨[]⟩ ⟨[pt 1019 0, pt 1020 0, pt 1018 0]⟩]
def d42 : LO := K0 [iV 3, iV 3, iV 0, iV 1, nS, nS, sl 1189 0 2 1 1, nS]
def d43 : LO := K0 [sV [102], iV 1, iV 0, sl 1255 0 1 1 1]
def d44 : LO := K0 [sV [102], iV 1, iV 0, sl 1299 0 1 1 1]
def d45 : LO := K0 [sV [102], iV 1, iV 0, sl 1367 0 1 1 1]
def d46 : LO := K0 [iV 3, iV 3, iV 0, iV 3, nS, nS, sl 1485 0 2 1 1, nS]
def d47 : LO := K0 [iV 3, iV 3, iV 0, iV 2, nS, nS, sl 1485 0 2 1 1, nS]
def d48 : LO := K0 [.func (.func 425) ⟨[]⟩ ⟨[pt 1527 0]⟩, .func (.func 426) ⟨[]⟩ ⟨[pt 1528 0, pt 1529 0, pt 1527 0]⟩]
def d49 : LO := K0 [iV 1, iV 0, iV 3, iV 1, sV [102], iV 1, iV 0, sl 81 0 1 1 1, nS, sV [], iV 0, iV 0, nS, nS, iV 0, iV 0, nS]
def d50 : LO := K0 [iV 0, iV 0, iV 511, iV 1000, iV 511, iV 0, iV 0, iV 0]
def d51 : LO := K0 [iV 3, iV 1, sV [102], iV 1, iV 0, sl 81 0 1 1 1, nS]
def d52 : LO := K0 [.func (.func 278) ⟨[ag [iV 3, iV 1, sV [102], iV 1, iV 0, sl 81 0 1 1 1, nS]]⟩ ⟨[]⟩, .func (.func 279) ⟨[ag [iV 3, iV 1, sV [102], iV 1, iV 0, sl 81 0 1 1 1, nS]]⟩ ⟨[]⟩, .func (.func 280) ⟨[ag [iV 3, iV 1, sV [102], iV 1, iV 0, sl 81 0 1 1 1, nS]]⟩ ⟨[]⟩, .func (.func 281) ⟨[ag [iV 3, iV 1, sV [102], iV 1, iV 0, sl 81 0 1 1 1, nS]]⟩ ⟨[]⟩, .func (.func 282) ⟨[ag [iV 3, iV 1, sV [102], iV 1, iV 0, sl 81 0 1 1 1, nS]]⟩ ⟨[]⟩]
def d53 : LO := K0 [iV 3, iV 1, sV [102], iV 1, iV 0, sl 488 0 1 1 1, nS]
def d54 : LO := K0 [iV 3, iV 1, sV [102], iV 1, iV 0, sl 510 0 1 1 1, nS]
def d55 : LO := K0 [sV [102], iV 1, iV 0, sl 720 0 1 1 1, sl 723 0 3 1 1]
def d56 : LO := K0 [sV [102], iV 1, iV 0, sl 816 0 1 1 1]
def d57 : LO := K0 [sV [102], iV 1, iV 0, sl 816 0 1 1 1, sl 819 0 3 1 1]
def d58 : LO := K0 [.func (.func 410) ⟨[]⟩ ⟨[pt 941 0, pt 940 0]⟩, .func (.func 411) ⟨[]⟩ ⟨[pt 942 0, pt 940 0]⟩]
def c0 : Nat × LO := (61, .map [] 0)
def c1 : Nat × LO := (62, K0 [iV 1000000, mp 61, .int .i64 (.negSucc 0), iV 0, u3 0])
def c2 : Nat × LO := (61, .map [⟨sV [110, 46, 108], pt 177 0, 0⟩] 1)
def c3 : Nat × LO := (62, K0 [iV 1000000, mp 61, .int .i64 (.negSucc 0), iV 4, u3 0])
def c4 : Nat × LO := (352, Fm 353 353)
def c5 : Nat × LO := (61, .map [⟨sV [110, 46, 108], pt 65 0, 0⟩] 1)
def c6 : Nat × LO := (65, K0 [sl 68 0 1 36 36, bT, nS])
def c7 : Nat × LO := (68, K1 (bL [0, 0, 0, 8, 168, 199, 248, 50, 40, 26, 57, 197, 0, 0, 0, 0, 0, 0, 0, 0, 0, 0, 0, 4, 164, 125, 234, 119, 66, 173, 119, 67, 1, 7, 1, 1]) 67)
def c8 : Nat × LO := (62, K0 [iV 1000000, mp 61, .int .i64 (.negSucc 0), iV 6, u3 0])
def c9 : Nat × LO := (129, Fm 160 130)
def c10 : Nat × LO := (143, Fm 158 144)
def c11 : Nat × LO := (159, K1 (bL [0, 0, 0, 8, 168, 199, 248, 50, 40, 26, 57, 197]) 129)
def c12 : Nat × LO := (160, K1 (bL [0, 0, 0, 8, 168, 199, 248, 50, 40, 26, 57, 197, 0, 0, 0, 0, 0, 0, 0, 0]) 129)
def c13 : Nat × LO := (161, K0 [pt 89 0])
def c14 : Nat × LO := (163, K0 [iV 0])
def c15 : Nat × LO := (165, K0 [iV 36])
def c16 : Nat × LO := (166, K0 [iV 0])
def c17 : Nat × LO := (182, K0 [u6 12161962213042174405])
def c18 : Nat × LO := (183, K0 [.func (.func 435) ⟨[]⟩ ⟨[]⟩])
def c19 : Nat × LO := (186, Fm 187 187)
def c20 : Nat × LO := (187, K1 (bL [0, 0, 0, 0, 0, 0, 0, 0]) 186)
def c21 : Nat × LO := (213, K0 [.func (.func 435) ⟨[]⟩ ⟨[]⟩])
def c22 : Nat × LO := (214, .dfr false)
def c23 : Nat × LO := (230, K1 [sl 217 0 1 4 4] 229)
def c24 : Nat × LO := (259, Fm 260 260)
def c25 : Nat × LO := (260, K1 (bL [1, 7, 1, 1]) 259)
def c26 : Nat × LO := (261, K0 [sl 260 0 1 4 4])
def c27 : Nat × LO := (262, Fm 263 263)
def c28 : Nat × LO := (263, K1 [sl 260 0 1 4 4] 262)
def c29 : Nat × LO := (291, Fm 292 292)
def c30 : Nat × LO := (601, Fm 602 602)
def c31 : Nat × LO := (64, K0 [pt 62 0, sV [110], u3 1, i3 0, u3 0, iV 0, iV 0, nS, sl 74 0 1 2 2, bF])
def c32 : Nat × LO := (65, K0 [sl 76 0 1 56 56, bT, nS])
def c33 : Nat × LO := (69, K1 [sl 67 0 1 4 4] 68)
def c34 : Nat × LO := (72, K1 [iV 2, nS] 71)
def c35 : Nat × LO := (74, K1 [sl 67 0 1 4 4, sl 73 0 1 8 8] 68)
def c36 : Nat × LO := (76, K1 (bL [0, 0, 0, 8, 168, 199, 248, 50, 40, 26, 57, 197, 0, 0, 0, 0, 0, 0, 0, 0, 0, 0, 0, 4, 164, 125, 234, 119, 66, 173, 119, 67, 1, 7, 1, 1, 0, 0, 0, 8, 134, 110, 62, 213, 105, 40, 219, 196, 1, 4, 1, 2, 1, 2, 0, 0]) 75)
def c37 : Nat × LO := (62, K0 [iV 1000000, mp 61, .int .i64 (.negSucc 0), iV 8, u3 0])
def c38 : Nat × LO := (64, K0 [pt 62 0, sV [110], u3 1, i3 0, u3 0, iV 0, iV 0, nS, sl 305 0 1 3 3, bF])
def c39 : Nat × LO := (65, K0 [sl 339 0 1 72 72, bT, nS])
def c40 : Nat × LO := (68, Fm 305 69)
def c41 : Nat × LO := (61, .map [⟨sV [110, 46, 108], pt 67 0, 0⟩] 1)
def c42 : Nat × LO := (63, K0 [pt 65 0, pt 62 0, nP])
def c43 : Nat × LO := (64, K0 [sl 76 0 3 2 2, sl 79 0 1 2 2, iV 1000, nS, iV 0])
def c44 : Nat × LO := (71, K1 [sl 69 0 1 4 4] 70)
def c45 : Nat × LO := (73, K1 (bL [0, 0, 0, 8, 168, 199, 248, 50, 40, 26, 57, 197, 0, 0, 0, 0, 0, 0, 0, 0, 0, 0, 0, 4, 164, 125, 234, 119, 66, 173, 119, 67, 1, 7, 1, 1]) 72)
def c46 : Nat × LO := (76, K1 [iV 1, iV 0, bF, iV 2, iV 1, bF] 75)
def c47 : Nat × LO := (79, K1 [pt 63 0, pt 77 0] 78)
def c48 : Nat × LO := (214, Fm 215 215)
def c49 : Nat × LO := (445, K0 [iV 0, iV 0])
def c50 : Nat × LO := (72, K1 [iV 1, nS] 71)
def c51 : Nat × LO := (76, K1 (bL [0, 0, 0, 8, 168, 199, 248, 50, 40, 26, 57, 197, 0, 0, 0, 0, 0, 0, 0, 0, 0, 0, 0, 4, 164, 125, 234, 119, 66, 173, 119, 67, 1, 7, 1, 1, 0, 0, 0, 8, 245, 184, 102, 16, 166, 131, 185, 245, 1, 4, 1, 1, 1, 2, 0, 0]) 75)
def c52 : Nat × LO := (62, K0 [sl 64 0 3 2 2, sl 69 0 1 2 2, iV 1000, nS, iV 0])
def c53 : Nat × LO := (64, K1 [iV 1, iV 0, bF, iV 2, iV 1, bF] 63)
def c54 : Nat × LO := (65, .map [⟨sV [110, 46, 108], pt 72 0, 0⟩] 1)
def c55 : Nat × LO := (67, K0 [pt 70 0, pt 66 0, nP])
def c56 : Nat × LO := (69, K1 [pt 61 0, pt 67 0] 68)
def c57 : Nat × LO := (76, K1 [sl 74 0 1 4 4] 75)
def c58 : Nat × LO := (78, K1 (bL [0, 0, 0, 8, 168, 199, 248, 50, 40, 26, 57, 197, 0, 0, 0, 0, 0, 0, 0, 0, 0, 0, 0, 4, 164, 125, 234, 119, 66, 173, 119, 67, 1, 7, 1, 1]) 77)
def c59 : Nat × LO := (64, K0 [nS, mp 63, iV 0])
def c60 : Nat × LO := (61, .map [⟨sV [110, 46, 108], pt 64 0, 0⟩] 1)
def c61 : Nat × LO := (67, K1 (bL [0, 0, 0, 8, 168, 199, 248, 50, 40, 26, 57, 197, 0, 0, 0, 0, 0, 0, 0, 0, 0, 0, 0, 4, 164, 125, 234, 119, 66, 173, 119, 67, 1, 7, 1, 1, 0, 0, 0, 8, 245, 184, 102, 16, 166, 131, 185, 245, 1, 4, 1, 1, 1, 2, 0, 0, 0, 0, 0, 4, 164, 125, 235, 119, 66, 173, 120, 246, 1, 7, 1, 2]) 66)
def c62 : Nat × LO := (73, K1 [sl 69 0 1 4 4, sl 72 0 1 8 8] 70)
def c63 : Nat × LO := (75, K1 [sl 69 0 1 4 4, sl 72 0 1 8 8, sl 74 0 1 4 4] 70)
def c64 : Nat × LO := (77, K1 [iV 1, nS] 76)
def c65 : Nat × LO := (62, K0 [iV 1000000, mp 61, .int .i64 (.negSucc 0), iV 10, u3 0])
def c66 : Nat × LO := (147, Fm 148 148)
def c67 : Nat × LO := (148, K1 [iV 1, nS] 147)
def c68 : Nat × LO := (233, K0 [bV 0])
def c69 : Nat × LO := (340, Fm 341 341)
def c70 : Nat × LO := (63, K0 [pt 62 0, nP, iV 2, iV 2, iV 1000, u3 1, i3 0, u3 0, iV 0, pt 64 0, iV 2, iV 2, iV 0, iV 2, nS, nS, sl 74 0 2 1 1, nS, pt 66 0, mp 70])
def c71 : Nat × LO := (65, K0 [sl 78 0 1 72 72, bT, nS])
def c72 : Nat × LO := (72, K1 [sl 67 0 1 4 4, sl 71 0 1 8 8] 68)
def c73 : Nat × LO := (74, K1 [iV 1, nS] 73)
def c74 : Nat × LO := (76, K1 [sl 67 0 1 4 4, sl 71 0 1 8 8, sl 75 0 1 4 4] 68)
def c75 : Nat × LO := (78, K1 (bL [0, 0, 0, 8, 168, 199, 248, 50, 40, 26, 57, 197, 0, 0, 0, 0, 0, 0, 0, 0, 0, 0, 0, 4, 164, 125, 234, 119, 66, 173, 119, 67, 1, 7, 1, 1, 0, 0, 0, 8, 245, 184, 102, 16, 166, 131, 185, 245, 1, 4, 1, 1, 1, 2, 0, 0, 0, 0, 0, 4, 164, 125, 235, 119, 66, 173, 120, 246, 1, 7, 1, 2]) 77)
def c76 : Nat × LO := (327, Fm 328 328)
def c77 : Nat × LO := (74, K1 [sl 67 0 1 4 4, sl 71 0 1 8 8, sl 73 0 1 4 4] 68)
def c78 : Nat × LO := (76, K1 [iV 1, nS] 75)
def c79 : Nat × LO := (78, K1 [sl 67 0 1 4 4, sl 71 0 1 8 8, sl 73 0 1 4 4, sl 77 0 1 8 8] 68)
def c80 : Nat × LO := (80, K1 (bL [0, 0, 0, 8, 168, 199, 248, 50, 40, 26, 57, 197, 0, 0, 0, 0, 0, 0, 0, 0, 0, 0, 0, 4, 164, 125, 234, 119, 66, 173, 119, 67, 1, 7, 1, 1, 0, 0, 0, 8, 245, 184, 102, 16, 166, 131, 185, 245, 1, 4, 1, 1, 1, 2, 0, 0, 0, 0, 0, 4, 164, 125, 235, 119, 66, 173, 120, 246, 1, 7, 1, 2, 0, 0, 0, 8, 245, 184, 102, 16, 166, 131, 185, 245, 1, 4, 1, 1, 1, 2, 0, 0]) 79)
def c81 : Nat × LO := (62, K0 [iV 1000000, mp 61, .int .i64 (.negSucc 0), iV 12, u3 0])
def c82 : Nat × LO := (77, K1 [iV 1, nS, iV 3, nS] 75)
def c83 : Nat × LO := (79, K1 [sl 67 0 1 4 4, sl 71 0 1 8 8, sl 73 0 1 4 4, sl 78 0 1 8 8] 68)
def c84 : Nat × LO := (81, K1 (bL [0, 0, 0, 8, 168, 199, 248, 50, 40, 26, 57, 197, 0, 0, 0, 0, 0, 0, 0, 0, 0, 0, 0, 4, 164, 125, 234, 119, 66, 173, 119, 67, 1, 7, 1, 1, 0, 0, 0, 8, 245, 184, 102, 16, 166, 131, 185, 245, 1, 4, 1, 1, 1, 2, 0, 0, 0, 0, 0, 4, 164, 125, 235, 119, 66, 173, 120, 246, 1, 7, 1, 2, 0, 0, 0, 8, 185, 180, 179, 187, 152, 68, 234, 131, 1, 4, 1, 3, 1, 2, 0, 0]) 80)
def c85 : Nat × LO := (62, K0 [sl 86 0 3 3 3, sl 88 0 1 3 3, iV 1000, nS, iV 0])
def c86 : Nat × LO := (63, .map [⟨sV [110, 46, 108], pt 70 0, 0⟩] 1)
def c87 : Nat × LO := (65, K0 [pt 68 0, pt 64 0, nP])
def c88 : Nat × LO := (67, K1 [pt 61 0, pt 65 0] 66)
def c89 : Nat × LO := (74, K1 [sl 72 0 1 4 4] 73)
def c90 : Nat × LO := (77, K1 [sl 72 0 1 4 4, sl 76 0 1 8 8] 73)
def c91 : Nat × LO := (79, K1 [iV 1, nS] 78)
def c92 : Nat × LO := (81, K1 [sl 72 0 1 4 4, sl 76 0 1 8 8, sl 80 0 1 4 4] 73)
def c93 : Nat × LO := (83, K1 (bL [0, 0, 0, 8, 168, 199, 248, 50, 40, 26, 57, 197, 0, 0, 0, 0, 0, 0, 0, 0, 0, 0, 0, 4, 164, 125, 234, 119, 66, 173, 119, 67, 1, 7, 1, 1, 0, 0, 0, 8, 245, 184, 102, 16, 166, 131, 185, 245, 1, 4, 1, 1, 1, 2, 0, 0, 0, 0, 0, 4, 164, 125, 235, 119, 66, 173, 120, 246, 1, 7, 1, 2]) 82)
def c94 : Nat × LO := (86, K1 [iV 1, iV 0, bF, iV 2, iV 1, bF, iV 3, iV 2, bF] 85)
def c95 : Nat × LO := (88, K1 [pt 61 0, pt 65 0, pt 87 0] 66)
def c96 : Nat × LO := (70, K1 (bL [0, 0, 0, 8, 168, 199, 248, 50, 40, 26, 57, 197, 0, 0, 0, 0, 0, 0, 0, 0, 0, 0, 0, 4, 164, 125, 234, 119, 66, 173, 119, 67, 1, 7, 1, 1]) 69)
def c97 : Nat × LO := (645, Fm 646 646)
def c98 : Nat × LO := (61, .map [⟨sV [110, 46, 108], pt 66 0, 0⟩] 1)
def c99 : Nat × LO := (70, K1 [sl 68 0 1 4 4] 69)
def c100 : Nat × LO := (73, K1 [iV 2, nS] 72)
def c101 : Nat × LO := (75, K1 [sl 68 0 1 4 4, sl 74 0 1 8 8] 69)
def c102 : Nat × LO := (77, K1 (bL [0, 0, 0, 8, 168, 199, 248, 50, 40, 26, 57, 197, 0, 0, 0, 0, 0, 0, 0, 0, 0, 0, 0, 4, 164, 125, 234, 119, 66, 173, 119, 67, 1, 7, 1, 1, 0, 0, 0, 8, 134, 110, 62, 213, 105, 40, 219, 196, 1, 4, 1, 2, 1, 2, 0, 0]) 76)
def c103 : Nat × LO := (62, K0 [sl 67 0 3 3 3, sl 73 0 1 3 3, iV 1000, nS, iV 0])
def c104 : Nat × LO := (65, K1 [pt 61 0, pt 63 0] 64)
def c105 : Nat × LO := (67, K1 [iV 1, iV 0, bF, iV 2, iV 1, bF, iV 3, iV 2, bF] 66)
def c106 : Nat × LO := (68, .map [⟨sV [110, 46, 108], pt 76 0, 0⟩] 1)
def c107 : Nat × LO := (70, K0 [pt 74 0, pt 69 0, pt 72 0])
def c108 : Nat × LO := (72, K0 [nS, mp 71, iV 0])
def c109 : Nat × LO := (73, K1 [pt 61 0, pt 63 0, pt 70 0] 64)
def c110 : Nat × LO := (80, K1 [sl 78 0 1 4 4] 79)
def c111 : Nat × LO := (82, K1 (bL [0, 0, 0, 8, 168, 199, 248, 50, 40, 26, 57, 197, 0, 0, 0, 0, 0, 0, 0, 0, 0, 0, 0, 4, 164, 125, 234, 119, 66, 173, 119, 67, 1, 7, 1, 1]) 81)
def c112 : Nat × LO := (68, K1 (bL [0, 0, 0, 8, 168, 199, 248, 50, 40, 26, 57, 197, 0, 0, 0, 0, 0, 0, 0, 0, 0, 0, 0, 4, 164, 125, 234, 119, 66, 173, 119, 67, 1, 7, 1, 1, 0, 0, 0, 8, 134, 110, 62, 213, 105, 40, 219, 196, 1, 4, 1, 2, 1, 2, 0, 0, 0, 0, 0, 4, 164, 125, 235, 119, 66, 173, 120, 246, 1, 7, 1, 2]) 67)
def c113 : Nat × LO := (72, K1 [sl 70 0 1 4 4] 71)
def c114 : Nat × LO := (74, K1 [sl 70 0 1 4 4, sl 73 0 1 8 8] 71)
def c115 : Nat × LO := (76, K1 [sl 70 0 1 4 4, sl 73 0 1 8 8, sl 75 0 1 4 4] 71)
def c116 : Nat × LO := (78, K1 [iV 2, nS] 77)
def c117 : Nat × LO := (280, Fm 281 281)
def c118 : Nat × LO := (63, .map [⟨sV [102], iV 1, 0⟩] 1)
def c119 : Nat × LO := (64, K0 [sl 76 0 4 1 1, mp 63, iV 1])
def c120 : Nat × LO := (72, K1 (bL [0, 0, 0, 8, 168, 199, 248, 50, 40, 26, 57, 197, 0, 0, 0, 0, 0, 0, 0, 0, 0, 0, 0, 4, 164, 125, 234, 119, 66, 173, 119, 67, 1, 7, 1, 1, 0, 0, 0, 8, 134, 110, 62, 213, 105, 40, 219, 196, 1, 4, 1, 2, 1, 2, 0, 0, 0, 0, 0, 4, 164, 125, 235, 119, 66, 173, 120, 246, 1, 7, 1, 2]) 71)
def c121 : Nat × LO := (74, K1 [bV 7] 73)
def c122 : Nat × LO := (76, K1 [sV [102], iV 1, iV 0, sl 74 0 1 1 1] 75)
def c123 : Nat × LO := (73, K1 [sl 68 0 1 4 4, sl 72 0 1 8 8] 69)
def c124 : Nat × LO := (75, K1 [iV 2, nS] 74)
def c125 : Nat × LO := (77, K1 [sl 68 0 1 4 4, sl 72 0 1 8 8, sl 76 0 1 4 4] 69)
def c126 : Nat × LO := (79, K1 (bL [0, 0, 0, 8, 168, 199, 248, 50, 40, 26, 57, 197, 0, 0, 0, 0, 0, 0, 0, 0, 0, 0, 0, 4, 164, 125, 234, 119, 66, 173, 119, 67, 1, 7, 1, 1, 0, 0, 0, 8, 134, 110, 62, 213, 105, 40, 219, 196, 1, 4, 1, 2, 1, 2, 0, 0, 0, 0, 0, 4, 164, 125, 235, 119, 66, 173, 120, 246, 1, 7, 1, 2]) 78)
def c127 : Nat × LO := (81, K1 [bV 7] 80)
def c128 : Nat × LO := (62, K0 [sl 66 0 3 3 3, sl 72 0 1 3 3, iV 1000, nS, iV 0])
def c129 : Nat × LO := (67, .map [⟨sV [110, 46, 108], pt 75 0, 0⟩] 1)
def c130 : Nat × LO := (69, K0 [pt 73 0, pt 68 0, pt 71 0])
def c131 : Nat × LO := (70, .map [⟨sV [102], iV 1, 0⟩] 1)
def c132 : Nat × LO := (71, K0 [sl 95 0 4 1 1, mp 70, iV 1])
def c133 : Nat × LO := (72, K1 [pt 61 0, pt 63 0, pt 69 0] 64)
def c134 : Nat × LO := (79, K1 [sl 77 0 1 4 4] 78)
def c135 : Nat × LO := (80, .map [⟨iV 2, pt 91 0, 0⟩] 1)
def c136 : Nat × LO := (82, K1 [sl 77 0 1 4 4, sl 81 0 1 8 8] 78)
def c137 : Nat × LO := (84, K1 [iV 2, nS] 83)
def c138 : Nat × LO := (86, K1 [sl 77 0 1 4 4, sl 81 0 1 8 8, sl 85 0 1 4 4] 78)
def c139 : Nat × LO := (88, K1 (bL [0, 0, 0, 8, 168, 199, 248, 50, 40, 26, 57, 197, 0, 0, 0, 0, 0, 0, 0, 0, 0, 0, 0, 4, 164, 125, 234, 119, 66, 173, 119, 67, 1, 7, 1, 1, 0, 0, 0, 8, 134, 110, 62, 213, 105, 40, 219, 196, 1, 4, 1, 2, 1, 2, 0, 0, 0, 0, 0, 4, 164, 125, 235, 119, 66, 173, 120, 246, 1, 7, 1, 2]) 87)
def c140 : Nat × LO := (91, K0 [iV 2, pt 89 0, pt 90 0, iV 0, iV 0, iV 0, iV 0, nS, iV 0, nS, nS])
def c141 : Nat × LO := (93, K1 [bV 7] 92)
def c142 : Nat × LO := (95, K1 [sV [102], iV 1, iV 0, sl 93 0 1 1 1] 94)
end Go.Proofs.YtlokchnadeldgaaGreatDoor.Q.awake
