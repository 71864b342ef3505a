/- FleetKnown: what the law's evaluation asks of the program once, and a table of 96 answers that the evaluator reckoned, in the kernel. No conditions. -/
import Derived.Test.YtggnokfchfipaaaGreatDoorEv5
import Derived.Test.YtggnokfchfipaaaGreatDoorSK
import Derived.Test.YtggnokfchfipaaaGreatDoorProg
import Derived.KernelRfl
set_option linter.unusedVariables false
namespace Go.Proofs.YtggnokfchfipaaaGreatDoor.Q
open Go.RowKit
open Go.Proofs.YtggnokfchfipaaaGreatDoor.Ev (sV bV iV bL tL Row RowGood RowH RowHGood LO)
def exts : List (Nat × Ev.Ext) := [(119, .aadd .i64), (153, .astore), (253, .aload .u32), (257, .astore), (356, .aload .i64), (357, .aswap .u32), (360, .acas .i64), (501, .compare), (547, .quiet 0), (548, .acas .i32), (549, .quiet 1), (550, .race 0), (552, .race 2), (553, .aadd .i32), (621, .count), (653, .indexByte)]
def srs : List (Nat × Nat × Bool) := [(219, 340, true)]
theorem draws : Tryz.prog.follows .mixedOrders = true := by kernel_rfl
theorem names : Ev.NameGood Tryz.prog := Ev.names_good (n := 755) (by kernel_rfl) (by decide +kernel)
theorem progOK : Ev.ProgOK Tryz.prog exts srs where
  draws := draws
  names := names
  exts p hp := by
    simp only [exts, List.mem_cons, List.not_mem_nil, or_false] at hp
    rcases hp with rfl | rfl | rfl | rfl | rfl | rfl | rfl | rfl | rfl | rfl | rfl | rfl | rfl | rfl | rfl | rfl
    · exact ⟨Tryz.f119, by kernel_rfl, by kernel_rfl, by kernel_rfl, by kernel_rfl, trivial⟩
    · exact ⟨Tryz.f153, by kernel_rfl, by kernel_rfl, by kernel_rfl, by kernel_rfl, trivial⟩
    · exact ⟨Tryz.f253, by kernel_rfl, by kernel_rfl, by kernel_rfl, by kernel_rfl, trivial⟩
    · exact ⟨Tryz.f257, by kernel_rfl, by kernel_rfl, by kernel_rfl, by kernel_rfl, trivial⟩
    · exact ⟨Tryz.f356, by kernel_rfl, by kernel_rfl, by kernel_rfl, by kernel_rfl, trivial⟩
    · exact ⟨Tryz.f357, by kernel_rfl, by kernel_rfl, by kernel_rfl, by kernel_rfl, trivial⟩
    · exact ⟨Tryz.f360, by kernel_rfl, by kernel_rfl, by kernel_rfl, by kernel_rfl, trivial⟩
    · exact ⟨Tryz.f501, by kernel_rfl, by kernel_rfl, by kernel_rfl, by kernel_rfl, trivial⟩
    · exact ⟨Tryz.f547, by kernel_rfl, by kernel_rfl, by kernel_rfl, by kernel_rfl, trivial⟩
    · exact ⟨Tryz.f548, by kernel_rfl, by kernel_rfl, by kernel_rfl, by kernel_rfl, trivial⟩
    · exact ⟨Tryz.f549, by kernel_rfl, by kernel_rfl, by kernel_rfl, by kernel_rfl, trivial⟩
    · exact ⟨Tryz.f550, by kernel_rfl, by kernel_rfl, by kernel_rfl, by kernel_rfl, trivial⟩
    · exact ⟨Tryz.f552, by kernel_rfl, by kernel_rfl, by kernel_rfl, by kernel_rfl, trivial⟩
    · exact ⟨Tryz.f553, by kernel_rfl, by kernel_rfl, by kernel_rfl, by kernel_rfl, trivial⟩
    · exact ⟨Tryz.f621, by kernel_rfl, by kernel_rfl, by kernel_rfl, by kernel_rfl, trivial⟩
    · exact ⟨Tryz.f653, by kernel_rfl, by kernel_rfl, by kernel_rfl, by kernel_rfl, trivial⟩
  srs p hp := by
    simp only [srs, List.mem_cons, List.not_mem_nil, or_false] at hp
    subst hp
    exact sorts219
def t0 : List Row := []
theorem T0 : ∀ r ∈ t0, RowGood Tryz.prog r := Ev.rows_nil
/-- tributary/node.within -/
def q0 : Row := ⟨134, [iV 0, iV 0, iV 2147483647], .bool true⟩
theorem QG0 : RowGood Tryz.prog q0 := Ev.row_good progOK T0 Ev.rowsH_nil (fuel := 100000) (depth := 300) (nx := 64) (by decide) (by decide +kernel)
def t1 : List Row := q0 :: t0
theorem T1 : ∀ r ∈ t1, RowGood Tryz.prog r := Ev.rows_cons QG0 T0
/-- tributary/store.Check -/
def q1 : Row := ⟨135, [.slice none 0 0], iV 0⟩
theorem QG1 : RowGood Tryz.prog q1 := Ev.row_good progOK T1 Ev.rowsH_nil (fuel := 100000) (depth := 300) (nx := 64) (by decide) (by decide +kernel)
def t2 : List Row := q1 :: t1
theorem T2 : ∀ r ∈ t2, RowGood Tryz.prog r := Ev.rows_cons QG1 T1
/-- tributary/shown.Check -/
def q2 : Row := ⟨136, [.slice none 0 0], iV 0⟩
theorem QG2 : RowGood Tryz.prog q2 := Ev.row_good progOK T2 Ev.rowsH_nil (fuel := 100000) (depth := 300) (nx := 64) (by decide) (by decide +kernel)
def t3 : List Row := q2 :: t2
theorem T3 : ∀ r ∈ t3, RowGood Tryz.prog r := Ev.rows_cons QG2 T2
/-- tributary/ledger.Check -/
def q3 : Row := ⟨137, [.slice none 0 0], iV 0⟩
theorem QG3 : RowGood Tryz.prog q3 := Ev.row_good progOK T3 Ev.rowsH_nil (fuel := 100000) (depth := 300) (nx := 64) (by decide) (by decide +kernel)
def t4 : List Row := q3 :: t3
theorem T4 : ∀ r ∈ t4, RowGood Tryz.prog r := Ev.rows_cons QG3 T3
/-- tributary/node.Check -/
def q4 : Row := ⟨66, [.agg ⟨[iV 1, iV 1, iV 0, iV 0, .slice none 0 0, .slice none 0 0, .slice none 0 0, .slice none 0 0]⟩], iV 0⟩
theorem QG4 : RowGood Tryz.prog q4 := Ev.row_good progOK T4 Ev.rowsH_nil (fuel := 100000) (depth := 300) (nx := 64) (by decide) (by decide +kernel)
def t5 : List Row := q4 :: t4
theorem T5 : ∀ r ∈ t5, RowGood Tryz.prog r := Ev.rows_cons QG4 T4
/-- tributary/node.Born -/
def q5 : Row := ⟨291, [iV 1, iV 1], .tuple ⟨[.agg ⟨[iV 1, iV 1, iV 0, iV 0, .slice none 0 0, .slice none 0 0, .slice none 0 0, .slice none 0 0]⟩, iV 0]⟩⟩
theorem QG5 : RowGood Tryz.prog q5 := Ev.row_good progOK T5 Ev.rowsH_nil (fuel := 100000) (depth := 300) (nx := 64) (by decide) (by decide +kernel)
def t6 : List Row := q5 :: t5
theorem T6 : ∀ r ∈ t6, RowGood Tryz.prog r := Ev.rows_cons QG5 T5
/-- tributary/print.Start -/
def q6 : Row := ⟨449, [], .int .u64 (.ofNat 14695981039346656037)⟩
theorem QG6 : RowGood Tryz.prog q6 := Ev.row_good progOK T6 Ev.rowsH_nil (fuel := 100000) (depth := 300) (nx := 64) (by decide) (by decide +kernel)
def t7 : List Row := q6 :: t6
theorem T7 : ∀ r ∈ t7, RowGood Tryz.prog r := Ev.rows_cons QG6 T6
/-- (tributary/print.state).with -/
def q7 : Row := ⟨531, [.int .u64 (.ofNat 14695981039346656037), bV 0], .int .u64 (.ofNat 12638153115695167455)⟩
theorem QG7 : RowGood Tryz.prog q7 := Ev.row_good progOK T7 Ev.rowsH_nil (fuel := 100000) (depth := 300) (nx := 64) (by decide) (by decide +kernel)
def t8 : List Row := q7 :: t7
theorem T8 : ∀ r ∈ t8, RowGood Tryz.prog r := Ev.rows_cons QG7 T7
/-- (tributary/print.state).with -/
def q8 : Row := ⟨531, [.int .u64 (.ofNat 12638153115695167455), bV 0], .int .u64 (.ofNat 590684067820433389)⟩
theorem QG8 : RowGood Tryz.prog q8 := Ev.row_good progOK T8 Ev.rowsH_nil (fuel := 100000) (depth := 300) (nx := 64) (by decide) (by decide +kernel)
def t9 : List Row := q8 :: t8
theorem T9 : ∀ r ∈ t9, RowGood Tryz.prog r := Ev.rows_cons QG8 T8
/-- (tributary/print.state).with -/
def q9 : Row := ⟨531, [.int .u64 (.ofNat 590684067820433389), bV 0], .int .u64 (.ofNat 15658191375538532279)⟩
theorem QG9 : RowGood Tryz.prog q9 := Ev.row_good progOK T9 Ev.rowsH_nil (fuel := 100000) (depth := 300) (nx := 64) (by decide) (by decide +kernel)
def t10 : List Row := q9 :: t9
theorem T10 : ∀ r ∈ t10, RowGood Tryz.prog r := Ev.rows_cons QG9 T9
/-- (tributary/print.state).with -/
def q10 : Row := ⟨531, [.int .u64 (.ofNat 15658191375538532279), bV 0], .int .u64 (.ofNat 5558979605539197941)⟩
theorem QG10 : RowGood Tryz.prog q10 := Ev.row_good progOK T10 Ev.rowsH_nil (fuel := 100000) (depth := 300) (nx := 64) (by decide) (by decide +kernel)
def t11 : List Row := q10 :: t10
theorem T11 : ∀ r ∈ t11, RowGood Tryz.prog r := Ev.rows_cons QG10 T10
/-- (tributary/print.state).with -/
def q11 : Row := ⟨531, [.int .u64 (.ofNat 5558979605539197941), bV 0], .int .u64 (.ofNat 16482136530319305039)⟩
theorem QG11 : RowGood Tryz.prog q11 := Ev.row_good progOK T11 Ev.rowsH_nil (fuel := 100000) (depth := 300) (nx := 64) (by decide) (by decide +kernel)
def t12 : List Row := q11 :: t11
theorem T12 : ∀ r ∈ t12, RowGood Tryz.prog r := Ev.rows_cons QG11 T11
/-- (tributary/print.state).with -/
def q12 : Row := ⟨531, [.int .u64 (.ofNat 16482136530319305039), bV 0], .int .u64 (.ofNat 15556837164214743357)⟩
theorem QG12 : RowGood Tryz.prog q12 := Ev.row_good progOK T12 Ev.rowsH_nil (fuel := 100000) (depth := 300) (nx := 64) (by decide) (by decide +kernel)
def t13 : List Row := q12 :: t12
theorem T13 : ∀ r ∈ t13, RowGood Tryz.prog r := Ev.rows_cons QG12 T12
/-- (tributary/print.state).with -/
def q13 : Row := ⟨531, [.int .u64 (.ofNat 15556837164214743357), bV 0], .int .u64 (.ofNat 8614007388540201639)⟩
theorem QG13 : RowGood Tryz.prog q13 := Ev.row_good progOK T13 Ev.rowsH_nil (fuel := 100000) (depth := 300) (nx := 64) (by decide) (by decide +kernel)
def t14 : List Row := q13 :: t13
theorem T14 : ∀ r ∈ t14, RowGood Tryz.prog r := Ev.rows_cons QG13 T13
/-- (tributary/print.state).with -/
def q14 : Row := ⟨531, [.int .u64 (.ofNat 8614007388540201639), bV 0], .int .u64 (.ofNat 12161962213042174405)⟩
theorem QG14 : RowGood Tryz.prog q14 := Ev.row_good progOK T14 Ev.rowsH_nil (fuel := 100000) (depth := 300) (nx := 64) (by decide) (by decide +kernel)
def t15 : List Row := q14 :: t14
theorem T15 : ∀ r ∈ t15, RowGood Tryz.prog r := Ev.rows_cons QG14 T14
/-- sync/atomic.b32 -/
def q15 : Row := ⟨258, [.bool true], .int .u32 (.ofNat 1)⟩
theorem QG15 : RowGood Tryz.prog q15 := Ev.row_good progOK T15 Ev.rowsH_nil (fuel := 100000) (depth := 300) (nx := 64) (by decide) (by decide +kernel)
def t16 : List Row := q15 :: t15
theorem T16 : ∀ r ∈ t16, RowGood Tryz.prog r := Ev.rows_cons QG15 T15
/-- slices.Clone[[]tributary/api.Event,tributary/api.Event] -/
def q16 : Row := ⟨141, [.slice none 0 0], .slice none 0 0⟩
theorem QG16 : RowGood Tryz.prog q16 := Ev.row_good progOK T16 Ev.rowsH_nil (fuel := 100000) (depth := 300) (nx := 64) (by decide) (by decide +kernel)
def t17 : List Row := q16 :: t16
theorem T17 : ∀ r ∈ t17, RowGood Tryz.prog r := Ev.rows_cons QG16 T16
/-- slices.Clone[[]tributary/api.Shown,tributary/api.Shown] -/
def q17 : Row := ⟨142, [.slice none 0 0], .slice none 0 0⟩
theorem QG17 : RowGood Tryz.prog q17 := Ev.row_good progOK T17 Ev.rowsH_nil (fuel := 100000) (depth := 300) (nx := 64) (by decide) (by decide +kernel)
def t18 : List Row := q17 :: t17
theorem T18 : ∀ r ∈ t18, RowGood Tryz.prog r := Ev.rows_cons QG17 T17
/-- slices.Clone[[]tributary/api.Report,tributary/api.Report] -/
def q18 : Row := ⟨144, [.slice none 0 0], .slice none 0 0⟩
theorem QG18 : RowGood Tryz.prog q18 := Ev.row_good progOK T18 Ev.rowsH_nil (fuel := 100000) (depth := 300) (nx := 64) (by decide) (by decide +kernel)
def t19 : List Row := q18 :: t18
theorem T19 : ∀ r ∈ t19, RowGood Tryz.prog r := Ev.rows_cons QG18 T18
/-- tributary/node.own -/
def q19 : Row := ⟨67, [.agg ⟨[iV 1, iV 1, iV 0, iV 0, .slice none 0 0, .slice none 0 0, .slice none 0 0, .slice none 0 0]⟩], .agg ⟨[iV 1, iV 1, iV 0, iV 0, .slice none 0 0, .slice none 0 0, .slice none 0 0, .slice none 0 0]⟩⟩
theorem QG19 : RowGood Tryz.prog q19 := Ev.row_good progOK T19 Ev.rowsH_nil (fuel := 100000) (depth := 300) (nx := 64) (by decide) (by decide +kernel)
def t20 : List Row := q19 :: t19
theorem T20 : ∀ r ∈ t20, RowGood Tryz.prog r := Ev.rows_cons QG19 T19
/-- tributary/scan.Changes -/
def q20 : Row := ⟨95, [.pointer none, .slice none 0 0, .slice none 0 0], .tuple ⟨[.slice none 0 0, iV 1]⟩⟩
theorem QG20 : RowGood Tryz.prog q20 := Ev.row_good progOK T20 Ev.rowsH_nil (fuel := 100000) (depth := 300) (nx := 64) (by decide) (by decide +kernel)
def t21 : List Row := q20 :: t20
theorem T21 : ∀ r ∈ t21, RowGood Tryz.prog r := Ev.rows_cons QG20 T20
/-- tributary/node.within -/
def q21 : Row := ⟨134, [iV 7, iV 1, iV 8], .bool true⟩
theorem QG21 : RowGood Tryz.prog q21 := Ev.row_good progOK T21 Ev.rowsH_nil (fuel := 100000) (depth := 300) (nx := 64) (by decide) (by decide +kernel)
def t22 : List Row := q21 :: t21
theorem T22 : ∀ r ∈ t22, RowGood Tryz.prog r := Ev.rows_cons QG21 T21
/-- tributary/node.kinds -/
def q22 : Row := ⟨152, [], .agg ⟨[.nilFunc, .func (.func 282) ⟨[]⟩ ⟨[]⟩, .func (.func 283) ⟨[]⟩ ⟨[]⟩, .func (.func 284) ⟨[]⟩ ⟨[]⟩, .func (.func 285) ⟨[]⟩ ⟨[]⟩, .func (.func 286) ⟨[]⟩ ⟨[]⟩, .func (.func 287) ⟨[]⟩ ⟨[]⟩, .func (.func 288) ⟨[]⟩ ⟨[]⟩, .func (.func 289) ⟨[]⟩ ⟨[]⟩]⟩⟩
theorem QG22 : RowGood Tryz.prog q22 := Ev.row_good progOK T22 Ev.rowsH_nil (fuel := 100000) (depth := 300) (nx := 64) (by decide) (by decide +kernel)
def t23 : List Row := q22 :: t22
theorem T23 : ∀ r ∈ t23, RowGood Tryz.prog r := Ev.rows_cons QG22 T22
/-- tributary/node.Apply -/
def q23 : Row := ⟨69, [.agg ⟨[iV 1, iV 1, iV 0, iV 0, .slice none 0 0, .slice none 0 0, .slice none 0 0, .slice none 0 0]⟩, .agg ⟨[iV 7, iV 1, iV 0, iV 0, sV [], iV 0, iV 0, .slice none 0 0, .slice none 0 0, sV [], iV 0, iV 0, .slice none 0 0, .slice none 0 0, iV 0, iV 0, .slice none 0 0]⟩], .tuple ⟨[.agg ⟨[iV 1, iV 1, iV 0, iV 1, .slice none 0 0, .slice none 0 0, .slice none 0 0, .slice none 0 0]⟩, iV 0]⟩⟩
theorem QG23 : RowGood Tryz.prog q23 := Ev.row_good progOK T23 Ev.rowsH_nil (fuel := 100000) (depth := 300) (nx := 64) (by decide) (by decide +kernel)
def t24 : List Row := q23 :: t23
theorem T24 : ∀ r ∈ t24, RowGood Tryz.prog r := Ev.rows_cons QG23 T23
/-- cmp.Compare[int] -/
def q24 : Row := ⟨427, [iV 0, iV 0], iV 0⟩
theorem QG24 : RowGood Tryz.prog q24 := Ev.row_good progOK T24 Ev.rowsH_nil (fuel := 100000) (depth := 300) (nx := 64) (by decide) (by decide +kernel)
def t25 : List Row := q24 :: t24
theorem T25 : ∀ r ∈ t25, RowGood Tryz.prog r := Ev.rows_cons QG24 T24
/-- tributary/effect.Same -/
def q25 : Row := ⟨185, [.agg ⟨[iV 0, iV 0, .slice none 0 0]⟩, .agg ⟨[iV 0, iV 0, .slice none 0 0]⟩], .bool true⟩
theorem QG25 : RowGood Tryz.prog q25 := Ev.row_good progOK T25 Ev.rowsH_nil (fuel := 100000) (depth := 300) (nx := 64) (by decide) (by decide +kernel)
def t26 : List Row := q25 :: t25
theorem T26 : ∀ r ∈ t26, RowGood Tryz.prog r := Ev.rows_cons QG25 T25
/-- tributary/node.may -/
def q26 : Row := ⟨151, [.agg ⟨[iV 7, iV 1, iV 0, iV 0, sV [], iV 0, iV 0, .slice none 0 0, .slice none 0 0, sV [], iV 0, iV 0, .slice none 0 0, .slice none 0 0, iV 0, iV 0, .slice none 0 0]⟩], .bool true⟩
theorem QG26 : RowGood Tryz.prog q26 := Ev.row_good progOK T26 Ev.rowsH_nil (fuel := 100000) (depth := 300) (nx := 64) (by decide) (by decide +kernel)
def t27 : List Row := q26 :: t26
theorem T27 : ∀ r ∈ t27, RowGood Tryz.prog r := Ev.rows_cons QG26 T26
/-- math/bits.Len64 -/
def q27 : Row := ⟨421, [.int .u64 (.ofNat 7)], iV 3⟩
theorem QG27 : RowGood Tryz.prog q27 := Ev.row_good progOK T27 Ev.rowsH_nil (fuel := 100000) (depth := 300) (nx := 64) (by decide) (by decide +kernel)
def t28 : List Row := q27 :: t27
theorem T28 : ∀ r ∈ t28, RowGood Tryz.prog r := Ev.rows_cons QG27 T27
/-- (tributary/print.state).with -/
def q28 : Row := ⟨531, [.int .u64 (.ofNat 14695981039346656037), bV 1], .int .u64 (.ofNat 12638152016183539244)⟩
theorem QG28 : RowGood Tryz.prog q28 := Ev.row_good progOK T28 Ev.rowsH_nil (fuel := 100000) (depth := 300) (nx := 64) (by decide) (by decide +kernel)
def t29 : List Row := q28 :: t28
theorem T29 : ∀ r ∈ t29, RowGood Tryz.prog r := Ev.rows_cons QG28 T28
/-- (tributary/print.state).with -/
def q29 : Row := ⟨531, [.int .u64 (.ofNat 12638152016183539244), bV 7], .int .u64 (.ofNat 589726393192450833)⟩
theorem QG29 : RowGood Tryz.prog q29 := Ev.row_good progOK T29 Ev.rowsH_nil (fuel := 100000) (depth := 300) (nx := 64) (by decide) (by decide +kernel)
def t30 : List Row := q29 :: t29
theorem T30 : ∀ r ∈ t30, RowGood Tryz.prog r := Ev.rows_cons QG29 T29
/-- (tributary/print.state).with -/
def q30 : Row := ⟨531, [.int .u64 (.ofNat 589726393192450833), bV 1], .int .u64 (.ofNat 15033068437530496048)⟩
theorem QG30 : RowGood Tryz.prog q30 := Ev.row_good progOK T30 Ev.rowsH_nil (fuel := 100000) (depth := 300) (nx := 64) (by decide) (by decide +kernel)
def t31 : List Row := q30 :: t30
theorem T31 : ∀ r ∈ t31, RowGood Tryz.prog r := Ev.rows_cons QG30 T30
/-- (tributary/print.state).with -/
def q31 : Row := ⟨531, [.int .u64 (.ofNat 15033068437530496048), bV 1], .int .u64 (.ofNat 11852887592249685827)⟩
theorem QG31 : RowGood Tryz.prog q31 := Ev.row_good progOK T31 Ev.rowsH_nil (fuel := 100000) (depth := 300) (nx := 64) (by decide) (by decide +kernel)
def t32 : List Row := q31 :: t31
theorem T32 : ∀ r ∈ t32, RowGood Tryz.prog r := Ev.rows_cons QG31 T31
/-- math/bits.Len -/
def q32 : Row := ⟨306, [.int .u64 (.ofNat 1)], iV 1⟩
theorem QG32 : RowGood Tryz.prog q32 := Ev.row_good progOK T32 Ev.rowsH_nil (fuel := 100000) (depth := 300) (nx := 64) (by decide) (by decide +kernel)
def t33 : List Row := q32 :: t32
theorem T33 : ∀ r ∈ t33, RowGood Tryz.prog r := Ev.rows_cons QG32 T32
/-- tributary/fleet.kinds -/
def q33 : Row := ⟨17, [], .agg ⟨[.nilFunc, .func (.func 25) ⟨[]⟩ ⟨[]⟩, .func (.func 26) ⟨[]⟩ ⟨[]⟩, .func (.func 27) ⟨[]⟩ ⟨[]⟩, .func (.func 28) ⟨[]⟩ ⟨[]⟩, .func (.func 28) ⟨[]⟩ ⟨[]⟩, .func (.func 28) ⟨[]⟩ ⟨[]⟩, .func (.func 28) ⟨[]⟩ ⟨[]⟩, .func (.func 28) ⟨[]⟩ ⟨[]⟩, .func (.func 29) ⟨[]⟩ ⟨[]⟩, .func (.func 29) ⟨[]⟩ ⟨[]⟩, .func (.func 29) ⟨[]⟩ ⟨[]⟩, .func (.func 29) ⟨[]⟩ ⟨[]⟩, .func (.func 30) ⟨[]⟩ ⟨[]⟩, .func (.func 31) ⟨[]⟩ ⟨[]⟩, .func (.func 31) ⟨[]⟩ ⟨[]⟩, .func (.func 31) ⟨[]⟩ ⟨[]⟩, .func (.func 29) ⟨[]⟩ ⟨[]⟩, .func (.func 29) ⟨[]⟩ ⟨[]⟩, .func (.func 32) ⟨[]⟩ ⟨[]⟩, .func (.func 33) ⟨[]⟩ ⟨[]⟩, .func (.func 34) ⟨[]⟩ ⟨[]⟩]⟩⟩
theorem QG33 : RowGood Tryz.prog q33 := Ev.row_good progOK T33 Ev.rowsH_nil (fuel := 100000) (depth := 300) (nx := 64) (by decide) (by decide +kernel)
def t34 : List Row := q33 :: t33
theorem T34 : ∀ r ∈ t34, RowGood Tryz.prog r := Ev.rows_cons QG33 T33
/-- tributary/node.within -/
def q34 : Row := ⟨134, [iV 2, iV 1, iV 200], .bool true⟩
theorem QG34 : RowGood Tryz.prog q34 := Ev.row_good progOK T34 Ev.rowsH_nil (fuel := 100000) (depth := 300) (nx := 64) (by decide) (by decide +kernel)
def t35 : List Row := q34 :: t34
theorem T35 : ∀ r ∈ t35, RowGood Tryz.prog r := Ev.rows_cons QG34 T34
/-- tributary/node.Check -/
def q35 : Row := ⟨66, [.agg ⟨[iV 2, iV 2, iV 0, iV 0, .slice none 0 0, .slice none 0 0, .slice none 0 0, .slice none 0 0]⟩], iV 0⟩
theorem QG35 : RowGood Tryz.prog q35 := Ev.row_good progOK T35 Ev.rowsH_nil (fuel := 100000) (depth := 300) (nx := 64) (by decide) (by decide +kernel)
def t36 : List Row := q35 :: t35
theorem T36 : ∀ r ∈ t36, RowGood Tryz.prog r := Ev.rows_cons QG35 T35
/-- tributary/node.Born -/
def q36 : Row := ⟨291, [iV 2, iV 2], .tuple ⟨[.agg ⟨[iV 2, iV 2, iV 0, iV 0, .slice none 0 0, .slice none 0 0, .slice none 0 0, .slice none 0 0]⟩, iV 0]⟩⟩
theorem QG36 : RowGood Tryz.prog q36 := Ev.row_good progOK T36 Ev.rowsH_nil (fuel := 100000) (depth := 300) (nx := 64) (by decide) (by decide +kernel)
def t37 : List Row := q36 :: t36
theorem T37 : ∀ r ∈ t37, RowGood Tryz.prog r := Ev.rows_cons QG36 T36
/-- tributary/node.own -/
def q37 : Row := ⟨67, [.agg ⟨[iV 2, iV 2, iV 0, iV 0, .slice none 0 0, .slice none 0 0, .slice none 0 0, .slice none 0 0]⟩], .agg ⟨[iV 2, iV 2, iV 0, iV 0, .slice none 0 0, .slice none 0 0, .slice none 0 0, .slice none 0 0]⟩⟩
theorem QG37 : RowGood Tryz.prog q37 := Ev.row_good progOK T37 Ev.rowsH_nil (fuel := 100000) (depth := 300) (nx := 64) (by decide) (by decide +kernel)
def t38 : List Row := q37 :: t37
theorem T38 : ∀ r ∈ t38, RowGood Tryz.prog r := Ev.rows_cons QG37 T37
/-- tributary/node.Apply -/
def q38 : Row := ⟨69, [.agg ⟨[iV 2, iV 2, iV 0, iV 0, .slice none 0 0, .slice none 0 0, .slice none 0 0, .slice none 0 0]⟩, .agg ⟨[iV 7, iV 1, iV 0, iV 0, sV [], iV 0, iV 0, .slice none 0 0, .slice none 0 0, sV [], iV 0, iV 0, .slice none 0 0, .slice none 0 0, iV 0, iV 0, .slice none 0 0]⟩], .tuple ⟨[.agg ⟨[iV 2, iV 2, iV 0, iV 1, .slice none 0 0, .slice none 0 0, .slice none 0 0, .slice none 0 0]⟩, iV 0]⟩⟩
theorem QG38 : RowGood Tryz.prog q38 := Ev.row_good progOK T38 Ev.rowsH_nil (fuel := 100000) (depth := 300) (nx := 64) (by decide) (by decide +kernel)
def t39 : List Row := q38 :: t38
theorem T39 : ∀ r ∈ t39, RowGood Tryz.prog r := Ev.rows_cons QG38 T38
/-- tributary/node.Check -/
def q39 : Row := ⟨66, [.agg ⟨[iV 1, iV 1, iV 0, iV 1, .slice none 0 0, .slice none 0 0, .slice none 0 0, .slice none 0 0]⟩], iV 0⟩
theorem QG39 : RowGood Tryz.prog q39 := Ev.row_good progOK T39 Ev.rowsH_nil (fuel := 100000) (depth := 300) (nx := 64) (by decide) (by decide +kernel)
def t40 : List Row := q39 :: t39
theorem T40 : ∀ r ∈ t40, RowGood Tryz.prog r := Ev.rows_cons QG39 T39
/-- tributary/node.own -/
def q40 : Row := ⟨67, [.agg ⟨[iV 1, iV 1, iV 0, iV 1, .slice none 0 0, .slice none 0 0, .slice none 0 0, .slice none 0 0]⟩], .agg ⟨[iV 1, iV 1, iV 0, iV 1, .slice none 0 0, .slice none 0 0, .slice none 0 0, .slice none 0 0]⟩⟩
theorem QG40 : RowGood Tryz.prog q40 := Ev.row_good progOK T40 Ev.rowsH_nil (fuel := 100000) (depth := 300) (nx := 64) (by decide) (by decide +kernel)
def t41 : List Row := q40 :: t40
theorem T41 : ∀ r ∈ t41, RowGood Tryz.prog r := Ev.rows_cons QG40 T40
/-- tributary/node.Replay -/
def q41 : Row := ⟨38, [.agg ⟨[iV 1, iV 1, iV 0, iV 1, .slice none 0 0, .slice none 0 0, .slice none 0 0, .slice none 0 0]⟩, .slice none 0 0], .tuple ⟨[.agg ⟨[iV 1, iV 1, iV 0, iV 1, .slice none 0 0, .slice none 0 0, .slice none 0 0, .slice none 0 0]⟩, iV 0]⟩⟩
theorem QG41 : RowGood Tryz.prog q41 := Ev.row_good progOK T41 Ev.rowsH_nil (fuel := 100000) (depth := 300) (nx := 64) (by decide) (by decide +kernel)
def t42 : List Row := q41 :: t41
theorem T42 : ∀ r ∈ t42, RowGood Tryz.prog r := Ev.rows_cons QG41 T41
/-- tributary/node.fine -/
def q42 : Row := ⟨380, [], .bool true⟩
theorem QG42 : RowGood Tryz.prog q42 := Ev.row_good progOK T42 Ev.rowsH_nil (fuel := 100000) (depth := 300) (nx := 64) (by decide) (by decide +kernel)
def t43 : List Row := q42 :: t42
theorem T43 : ∀ r ∈ t43, RowGood Tryz.prog r := Ev.rows_cons QG42 T42
/-- tributary/node.may -/
def q43 : Row := ⟨151, [.agg ⟨[iV 7, iV 2, iV 0, iV 0, sV [], iV 0, iV 0, .slice none 0 0, .slice none 0 0, sV [], iV 0, iV 0, .slice none 0 0, .slice none 0 0, iV 0, iV 0, .slice none 0 0]⟩], .bool true⟩
theorem QG43 : RowGood Tryz.prog q43 := Ev.row_good progOK T43 Ev.rowsH_nil (fuel := 100000) (depth := 300) (nx := 64) (by decide) (by decide +kernel)
def t44 : List Row := q43 :: t43
theorem T44 : ∀ r ∈ t44, RowGood Tryz.prog r := Ev.rows_cons QG43 T43
/-- (tributary/print.state).with -/
def q44 : Row := ⟨531, [.int .u64 (.ofNat 15033068437530496048), bV 2], .int .u64 (.ofNat 11852888691761314038)⟩
theorem QG44 : RowGood Tryz.prog q44 := Ev.row_good progOK T44 Ev.rowsH_nil (fuel := 100000) (depth := 300) (nx := 64) (by decide) (by decide +kernel)
def t45 : List Row := q44 :: t44
theorem T45 : ∀ r ∈ t45, RowGood Tryz.prog r := Ev.rows_cons QG44 T44
/-- tributary/node.within -/
def q45 : Row := ⟨134, [iV 4, iV 1, iV 8], .bool true⟩
theorem QG45 : RowGood Tryz.prog q45 := Ev.row_good progOK T45 Ev.rowsH_nil (fuel := 100000) (depth := 300) (nx := 64) (by decide) (by decide +kernel)
def t46 : List Row := q45 :: t45
theorem T46 : ∀ r ∈ t46, RowGood Tryz.prog r := Ev.rows_cons QG45 T45
/-- slices.Clone[[]tributary/api.Span,tributary/api.Span] -/
def q46 : Row := ⟨145, [.slice none 0 0], .slice none 0 0⟩
theorem QG46 : RowGood Tryz.prog q46 := Ev.row_good progOK T46 Ev.rowsH_nil (fuel := 100000) (depth := 300) (nx := 64) (by decide) (by decide +kernel)
def t47 : List Row := q46 :: t46
theorem T47 : ∀ r ∈ t47, RowGood Tryz.prog r := Ev.rows_cons QG46 T46
/-- tributary/node.ownArchive -/
def q47 : Row := ⟨146, [.agg ⟨[iV 2, .slice none 0 0]⟩], .agg ⟨[iV 2, .slice none 0 0]⟩⟩
theorem QG47 : RowGood Tryz.prog q47 := Ev.row_good progOK T47 Ev.rowsH_nil (fuel := 100000) (depth := 300) (nx := 64) (by decide) (by decide +kernel)
def t48 : List Row := q47 :: t47
theorem T48 : ∀ r ∈ t48, RowGood Tryz.prog r := Ev.rows_cons QG47 T47
/-- tributary/past.Check -/
def q48 : Row := ⟨270, [.slice none 0 0], iV 0⟩
theorem QG48 : RowGood Tryz.prog q48 := Ev.row_good progOK T48 Ev.rowsH_nil (fuel := 100000) (depth := 300) (nx := 64) (by decide) (by decide +kernel)
def t49 : List Row := q48 :: t48
theorem T49 : ∀ r ∈ t49, RowGood Tryz.prog r := Ev.rows_cons QG48 T48
/-- tributary/edge.Check -/
def q49 : Row := ⟨140, [.agg ⟨[iV 2, .slice none 0 0]⟩], iV 0⟩
theorem QG49 : RowGood Tryz.prog q49 := Ev.row_good progOK T49 Ev.rowsH_nil (fuel := 100000) (depth := 300) (nx := 64) (by decide) (by decide +kernel)
def t50 : List Row := q49 :: t49
theorem T50 : ∀ r ∈ t50, RowGood Tryz.prog r := Ev.rows_cons QG49 T49
/-- tributary/node.may -/
def q50 : Row := ⟨151, [.agg ⟨[iV 4, iV 2, iV 0, iV 0, sV [], iV 0, iV 0, .slice none 0 0, .slice none 0 0, sV [], iV 0, iV 0, .slice none 0 0, .slice none 0 0, iV 0, iV 0, .slice none 0 0]⟩], .bool true⟩
theorem QG50 : RowGood Tryz.prog q50 := Ev.row_good progOK T50 Ev.rowsH_nil (fuel := 100000) (depth := 300) (nx := 64) (by decide) (by decide +kernel)
def t51 : List Row := q50 :: t50
theorem T51 : ∀ r ∈ t51, RowGood Tryz.prog r := Ev.rows_cons QG50 T50
/-- (tributary/print.state).with -/
def q51 : Row := ⟨531, [.int .u64 (.ofNat 12638152016183539244), bV 4], .int .u64 (.ofNat 589723094657566200)⟩
theorem QG51 : RowGood Tryz.prog q51 := Ev.row_good progOK T51 Ev.rowsH_nil (fuel := 100000) (depth := 300) (nx := 64) (by decide) (by decide +kernel)
def t52 : List Row := q51 :: t51
theorem T52 : ∀ r ∈ t52, RowGood Tryz.prog r := Ev.rows_cons QG51 T51
/-- (tributary/print.state).with -/
def q52 : Row := ⟨531, [.int .u64 (.ofNat 589723094657566200), bV 1], .int .u64 (.ofNat 15030200911204689435)⟩
theorem QG52 : RowGood Tryz.prog q52 := Ev.row_good progOK T52 Ev.rowsH_nil (fuel := 100000) (depth := 300) (nx := 64) (by decide) (by decide +kernel)
def t53 : List Row := q52 :: t52
theorem T53 : ∀ r ∈ t53, RowGood Tryz.prog r := Ev.rows_cons QG52 T52
/-- (tributary/print.state).with -/
def q53 : Row := ⟨531, [.int .u64 (.ofNat 15030200911204689435), bV 2], .int .u64 (.ofNat 9982301653807348859)⟩
theorem QG53 : RowGood Tryz.prog q53 := Ev.row_good progOK T53 Ev.rowsH_nil (fuel := 100000) (depth := 300) (nx := 64) (by decide) (by decide +kernel)
def t54 : List Row := q53 :: t53
theorem T54 : ∀ r ∈ t54, RowGood Tryz.prog r := Ev.rows_cons QG53 T53
/-- (tributary/print.state).with -/
def q54 : Row := ⟨531, [.int .u64 (.ofNat 9982301653807348859), bV 1], .int .u64 (.ofNat 6973096753283711822)⟩
theorem QG54 : RowGood Tryz.prog q54 := Ev.row_good progOK T54 Ev.rowsH_nil (fuel := 100000) (depth := 300) (nx := 64) (by decide) (by decide +kernel)
def t55 : List Row := q54 :: t54
theorem T55 : ∀ r ∈ t55, RowGood Tryz.prog r := Ev.rows_cons QG54 T54
/-- (tributary/print.state).with -/
def q55 : Row := ⟨531, [.int .u64 (.ofNat 6973096753283711822), bV 2], .int .u64 (.ofNat 6284590922442267172)⟩
theorem QG55 : RowGood Tryz.prog q55 := Ev.row_good progOK T55 Ev.rowsH_nil (fuel := 100000) (depth := 300) (nx := 64) (by decide) (by decide +kernel)
def t56 : List Row := q55 :: t55
theorem T56 : ∀ r ∈ t56, RowGood Tryz.prog r := Ev.rows_cons QG55 T55
/-- (tributary/print.state).with -/
def q56 : Row := ⟨531, [.int .u64 (.ofNat 6284590922442267172), bV 0], .int .u64 (.ofNat 281564966893562668)⟩
theorem QG56 : RowGood Tryz.prog q56 := Ev.row_good progOK T56 Ev.rowsH_nil (fuel := 100000) (depth := 300) (nx := 64) (by decide) (by decide +kernel)
def t57 : List Row := q56 :: t56
theorem T57 : ∀ r ∈ t57, RowGood Tryz.prog r := Ev.rows_cons QG56 T56
/-- (tributary/print.state).with -/
def q57 : Row := ⟨531, [.int .u64 (.ofNat 281564966893562668), bV 0], .int .u64 (.ofNat 9686748934833757124)⟩
theorem QG57 : RowGood Tryz.prog q57 := Ev.row_good progOK T57 Ev.rowsH_nil (fuel := 100000) (depth := 300) (nx := 64) (by decide) (by decide +kernel)
def t58 : List Row := q57 :: t57
theorem T58 : ∀ r ∈ t58, RowGood Tryz.prog r := Ev.rows_cons QG57 T57
/-- tributary/node.Check -/
def q58 : Row := ⟨66, [.agg ⟨[iV 2, iV 2, iV 0, iV 1, .slice none 0 0, .slice none 0 0, .slice none 0 0, .slice none 0 0]⟩], iV 0⟩
theorem QG58 : RowGood Tryz.prog q58 := Ev.row_good progOK T58 Ev.rowsH_nil (fuel := 100000) (depth := 300) (nx := 64) (by decide) (by decide +kernel)
def t59 : List Row := q58 :: t58
theorem T59 : ∀ r ∈ t59, RowGood Tryz.prog r := Ev.rows_cons QG58 T58
/-- tributary/node.own -/
def q59 : Row := ⟨67, [.agg ⟨[iV 2, iV 2, iV 0, iV 1, .slice none 0 0, .slice none 0 0, .slice none 0 0, .slice none 0 0]⟩], .agg ⟨[iV 2, iV 2, iV 0, iV 1, .slice none 0 0, .slice none 0 0, .slice none 0 0, .slice none 0 0]⟩⟩
theorem QG59 : RowGood Tryz.prog q59 := Ev.row_good progOK T59 Ev.rowsH_nil (fuel := 100000) (depth := 300) (nx := 64) (by decide) (by decide +kernel)
def t60 : List Row := q59 :: t59
theorem T60 : ∀ r ∈ t60, RowGood Tryz.prog r := Ev.rows_cons QG59 T59
/-- tributary/node.Replay -/
def q60 : Row := ⟨38, [.agg ⟨[iV 2, iV 2, iV 0, iV 1, .slice none 0 0, .slice none 0 0, .slice none 0 0, .slice none 0 0]⟩, .slice none 0 0], .tuple ⟨[.agg ⟨[iV 2, iV 2, iV 0, iV 1, .slice none 0 0, .slice none 0 0, .slice none 0 0, .slice none 0 0]⟩, iV 0]⟩⟩
theorem QG60 : RowGood Tryz.prog q60 := Ev.row_good progOK T60 Ev.rowsH_nil (fuel := 100000) (depth := 300) (nx := 64) (by decide) (by decide +kernel)
def t61 : List Row := q60 :: t60
theorem T61 : ∀ r ∈ t61, RowGood Tryz.prog r := Ev.rows_cons QG60 T60
/-- tributary/node.ownArchive -/
def q61 : Row := ⟨146, [.agg ⟨[iV 1, .slice none 0 0]⟩], .agg ⟨[iV 1, .slice none 0 0]⟩⟩
theorem QG61 : RowGood Tryz.prog q61 := Ev.row_good progOK T61 Ev.rowsH_nil (fuel := 100000) (depth := 300) (nx := 64) (by decide) (by decide +kernel)
def t62 : List Row := q61 :: t61
theorem T62 : ∀ r ∈ t62, RowGood Tryz.prog r := Ev.rows_cons QG61 T61
/-- tributary/edge.Check -/
def q62 : Row := ⟨140, [.agg ⟨[iV 1, .slice none 0 0]⟩], iV 0⟩
theorem QG62 : RowGood Tryz.prog q62 := Ev.row_good progOK T62 Ev.rowsH_nil (fuel := 100000) (depth := 300) (nx := 64) (by decide) (by decide +kernel)
def t63 : List Row := q62 :: t62
theorem T63 : ∀ r ∈ t63, RowGood Tryz.prog r := Ev.rows_cons QG62 T62
/-- tributary/node.may -/
def q63 : Row := ⟨151, [.agg ⟨[iV 4, iV 1, iV 0, iV 0, sV [], iV 0, iV 0, .slice none 0 0, .slice none 0 0, sV [], iV 0, iV 0, .slice none 0 0, .slice none 0 0, iV 0, iV 0, .slice none 0 0]⟩], .bool true⟩
theorem QG63 : RowGood Tryz.prog q63 := Ev.row_good progOK T63 Ev.rowsH_nil (fuel := 100000) (depth := 300) (nx := 64) (by decide) (by decide +kernel)
def t64 : List Row := q63 :: t63
theorem T64 : ∀ r ∈ t64, RowGood Tryz.prog r := Ev.rows_cons QG63 T63
/-- (tributary/print.state).with -/
def q64 : Row := ⟨531, [.int .u64 (.ofNat 15030200911204689435), bV 1], .int .u64 (.ofNat 9982302753318977070)⟩
theorem QG64 : RowGood Tryz.prog q64 := Ev.row_good progOK T64 Ev.rowsH_nil (fuel := 100000) (depth := 300) (nx := 64) (by decide) (by decide +kernel)
def t65 : List Row := q64 :: t64
theorem T65 : ∀ r ∈ t65, RowGood Tryz.prog r := Ev.rows_cons QG64 T64
/-- (tributary/print.state).with -/
def q65 : Row := ⟨531, [.int .u64 (.ofNat 9982302753318977070), bV 1], .int .u64 (.ofNat 6974055527423322589)⟩
theorem QG65 : RowGood Tryz.prog q65 := Ev.row_good progOK T65 Ev.rowsH_nil (fuel := 100000) (depth := 300) (nx := 64) (by decide) (by decide +kernel)
def t66 : List Row := q65 :: t65
theorem T66 : ∀ r ∈ t66, RowGood Tryz.prog r := Ev.rows_cons QG65 T65
/-- (tributary/print.state).with -/
def q66 : Row := ⟨531, [.int .u64 (.ofNat 6974055527423322589), bV 2], .int .u64 (.ofNat 6910673734101542381)⟩
theorem QG66 : RowGood Tryz.prog q66 := Ev.row_good progOK T66 Ev.rowsH_nil (fuel := 100000) (depth := 300) (nx := 64) (by decide) (by decide +kernel)
def t67 : List Row := q66 :: t66
theorem T67 : ∀ r ∈ t67, RowGood Tryz.prog r := Ev.rows_cons QG66 T66
/-- (tributary/print.state).with -/
def q67 : Row := ⟨531, [.int .u64 (.ofNat 6910673734101542381), bV 0], .int .u64 (.ofNat 13061437142133371319)⟩
theorem QG67 : RowGood Tryz.prog q67 := Ev.row_good progOK T67 Ev.rowsH_nil (fuel := 100000) (depth := 300) (nx := 64) (by decide) (by decide +kernel)
def t68 : List Row := q67 :: t67
theorem T68 : ∀ r ∈ t68, RowGood Tryz.prog r := Ev.rows_cons QG67 T67
/-- (tributary/print.state).with -/
def q68 : Row := ⟨531, [.int .u64 (.ofNat 13061437142133371319), bV 0], .int .u64 (.ofNat 17706014156706265589)⟩
theorem QG68 : RowGood Tryz.prog q68 := Ev.row_good progOK T68 Ev.rowsH_nil (fuel := 100000) (depth := 300) (nx := 64) (by decide) (by decide +kernel)
def t69 : List Row := q68 :: t68
theorem T69 : ∀ r ∈ t69, RowGood Tryz.prog r := Ev.rows_cons QG68 T68
/-- tributary/node.within -/
def q69 : Row := ⟨134, [iV 3, iV 1, iV 200], .bool true⟩
theorem QG69 : RowGood Tryz.prog q69 := Ev.row_good progOK T69 Ev.rowsH_nil (fuel := 100000) (depth := 300) (nx := 64) (by decide) (by decide +kernel)
def t70 : List Row := q69 :: t69
theorem T70 : ∀ r ∈ t70, RowGood Tryz.prog r := Ev.rows_cons QG69 T69
/-- tributary/node.within -/
def q70 : Row := ⟨134, [iV 3, iV 1, iV 3], .bool true⟩
theorem QG70 : RowGood Tryz.prog q70 := Ev.row_good progOK T70 Ev.rowsH_nil (fuel := 100000) (depth := 300) (nx := 64) (by decide) (by decide +kernel)
def t71 : List Row := q70 :: t70
theorem T71 : ∀ r ∈ t71, RowGood Tryz.prog r := Ev.rows_cons QG70 T70
/-- tributary/node.Check -/
def q71 : Row := ⟨66, [.agg ⟨[iV 3, iV 3, iV 0, iV 0, .slice none 0 0, .slice none 0 0, .slice none 0 0, .slice none 0 0]⟩], iV 0⟩
theorem QG71 : RowGood Tryz.prog q71 := Ev.row_good progOK T71 Ev.rowsH_nil (fuel := 100000) (depth := 300) (nx := 64) (by decide) (by decide +kernel)
def t72 : List Row := q71 :: t71
theorem T72 : ∀ r ∈ t72, RowGood Tryz.prog r := Ev.rows_cons QG71 T71
/-- tributary/node.Born -/
def q72 : Row := ⟨291, [iV 3, iV 3], .tuple ⟨[.agg ⟨[iV 3, iV 3, iV 0, iV 0, .slice none 0 0, .slice none 0 0, .slice none 0 0, .slice none 0 0]⟩, iV 0]⟩⟩
theorem QG72 : RowGood Tryz.prog q72 := Ev.row_good progOK T72 Ev.rowsH_nil (fuel := 100000) (depth := 300) (nx := 64) (by decide) (by decide +kernel)
def t73 : List Row := q72 :: t72
theorem T73 : ∀ r ∈ t73, RowGood Tryz.prog r := Ev.rows_cons QG72 T72
/-- tributary/node.own -/
def q73 : Row := ⟨67, [.agg ⟨[iV 3, iV 3, iV 0, iV 0, .slice none 0 0, .slice none 0 0, .slice none 0 0, .slice none 0 0]⟩], .agg ⟨[iV 3, iV 3, iV 0, iV 0, .slice none 0 0, .slice none 0 0, .slice none 0 0, .slice none 0 0]⟩⟩
theorem QG73 : RowGood Tryz.prog q73 := Ev.row_good progOK T73 Ev.rowsH_nil (fuel := 100000) (depth := 300) (nx := 64) (by decide) (by decide +kernel)
def t74 : List Row := q73 :: t73
theorem T74 : ∀ r ∈ t74, RowGood Tryz.prog r := Ev.rows_cons QG73 T73
/-- tributary/node.Apply -/
def q74 : Row := ⟨69, [.agg ⟨[iV 3, iV 3, iV 0, iV 0, .slice none 0 0, .slice none 0 0, .slice none 0 0, .slice none 0 0]⟩, .agg ⟨[iV 7, iV 1, iV 0, iV 0, sV [], iV 0, iV 0, .slice none 0 0, .slice none 0 0, sV [], iV 0, iV 0, .slice none 0 0, .slice none 0 0, iV 0, iV 0, .slice none 0 0]⟩], .tuple ⟨[.agg ⟨[iV 3, iV 3, iV 0, iV 1, .slice none 0 0, .slice none 0 0, .slice none 0 0, .slice none 0 0]⟩, iV 0]⟩⟩
theorem QG74 : RowGood Tryz.prog q74 := Ev.row_good progOK T74 Ev.rowsH_nil (fuel := 100000) (depth := 300) (nx := 64) (by decide) (by decide +kernel)
def t75 : List Row := q74 :: t74
theorem T75 : ∀ r ∈ t75, RowGood Tryz.prog r := Ev.rows_cons QG74 T74
/-- tributary/node.within -/
def q75 : Row := ⟨134, [iV 2, iV 0, iV 1099511627776], .bool true⟩
theorem QG75 : RowGood Tryz.prog q75 := Ev.row_good progOK T75 Ev.rowsH_nil (fuel := 100000) (depth := 300) (nx := 64) (by decide) (by decide +kernel)
def t76 : List Row := q75 :: t75
theorem T76 : ∀ r ∈ t76, RowGood Tryz.prog r := Ev.rows_cons QG75 T75
/-- tributary/node.may -/
def q76 : Row := ⟨151, [.agg ⟨[iV 7, iV 3, iV 0, iV 0, sV [], iV 0, iV 0, .slice none 0 0, .slice none 0 0, sV [], iV 0, iV 0, .slice none 0 0, .slice none 0 0, iV 0, iV 0, .slice none 0 0]⟩], .bool true⟩
theorem QG76 : RowGood Tryz.prog q76 := Ev.row_good progOK T76 Ev.rowsH_nil (fuel := 100000) (depth := 300) (nx := 64) (by decide) (by decide +kernel)
def t77 : List Row := q76 :: t76
theorem T77 : ∀ r ∈ t77, RowGood Tryz.prog r := Ev.rows_cons QG76 T76
/-- (tributary/print.state).with -/
def q77 : Row := ⟨531, [.int .u64 (.ofNat 15033068437530496048), bV 3], .int .u64 (.ofNat 11852889791272942249)⟩
theorem QG77 : RowGood Tryz.prog q77 := Ev.row_good progOK T77 Ev.rowsH_nil (fuel := 100000) (depth := 300) (nx := 64) (by decide) (by decide +kernel)
def t78 : List Row := q77 :: t77
theorem T78 : ∀ r ∈ t78, RowGood Tryz.prog r := Ev.rows_cons QG77 T77
/-- tributary/node.may -/
def q78 : Row := ⟨151, [.agg ⟨[iV 6, iV 1, iV 0, iV 0, sV [], iV 0, iV 0, .slice none 0 0, .slice none 0 0, sV [], iV 0, iV 0, .slice none 0 0, .slice none 0 0, iV 0, iV 0, .slice none 0 0]⟩], .bool true⟩
theorem QG78 : RowGood Tryz.prog q78 := Ev.row_good progOK T78 Ev.rowsH_nil (fuel := 100000) (depth := 300) (nx := 64) (by decide) (by decide +kernel)
def t79 : List Row := q78 :: t78
theorem T79 : ∀ r ∈ t79, RowGood Tryz.prog r := Ev.rows_cons QG78 T78
/-- tributary/node.ownArchive -/
def q79 : Row := ⟨146, [.agg ⟨[iV 3, .slice none 0 0]⟩], .agg ⟨[iV 3, .slice none 0 0]⟩⟩
theorem QG79 : RowGood Tryz.prog q79 := Ev.row_good progOK T79 Ev.rowsH_nil (fuel := 100000) (depth := 300) (nx := 64) (by decide) (by decide +kernel)
def t80 : List Row := q79 :: t79
theorem T80 : ∀ r ∈ t80, RowGood Tryz.prog r := Ev.rows_cons QG79 T79
/-- tributary/edge.Check -/
def q80 : Row := ⟨140, [.agg ⟨[iV 3, .slice none 0 0]⟩], iV 0⟩
theorem QG80 : RowGood Tryz.prog q80 := Ev.row_good progOK T80 Ev.rowsH_nil (fuel := 100000) (depth := 300) (nx := 64) (by decide) (by decide +kernel)
def t81 : List Row := q80 :: t80
theorem T81 : ∀ r ∈ t81, RowGood Tryz.prog r := Ev.rows_cons QG80 T80
/-- cmp.Compare[int] -/
def q81 : Row := ⟨427, [iV 1, iV 3], .int .i64 (.negSucc 0)⟩
theorem QG81 : RowGood Tryz.prog q81 := Ev.row_good progOK T81 Ev.rowsH_nil (fuel := 100000) (depth := 300) (nx := 64) (by decide) (by decide +kernel)
def t82 : List Row := q81 :: t81
theorem T82 : ∀ r ∈ t82, RowGood Tryz.prog r := Ev.rows_cons QG81 T81
/-- tributary/node.may -/
def q82 : Row := ⟨151, [.agg ⟨[iV 4, iV 3, iV 0, iV 0, sV [], iV 0, iV 0, .slice none 0 0, .slice none 0 0, sV [], iV 0, iV 0, .slice none 0 0, .slice none 0 0, iV 0, iV 0, .slice none 0 0]⟩], .bool true⟩
theorem QG82 : RowGood Tryz.prog q82 := Ev.row_good progOK T82 Ev.rowsH_nil (fuel := 100000) (depth := 300) (nx := 64) (by decide) (by decide +kernel)
def t83 : List Row := q82 :: t82
theorem T83 : ∀ r ∈ t83, RowGood Tryz.prog r := Ev.rows_cons QG82 T82
/-- tributary/node.Check -/
def q83 : Row := ⟨66, [.agg ⟨[iV 3, iV 3, iV 0, iV 1, .slice none 0 0, .slice none 0 0, .slice none 0 0, .slice none 0 0]⟩], iV 0⟩
theorem QG83 : RowGood Tryz.prog q83 := Ev.row_good progOK T83 Ev.rowsH_nil (fuel := 100000) (depth := 300) (nx := 64) (by decide) (by decide +kernel)
def t84 : List Row := q83 :: t83
theorem T84 : ∀ r ∈ t84, RowGood Tryz.prog r := Ev.rows_cons QG83 T83
/-- tributary/node.own -/
def q84 : Row := ⟨67, [.agg ⟨[iV 3, iV 3, iV 0, iV 1, .slice none 0 0, .slice none 0 0, .slice none 0 0, .slice none 0 0]⟩], .agg ⟨[iV 3, iV 3, iV 0, iV 1, .slice none 0 0, .slice none 0 0, .slice none 0 0, .slice none 0 0]⟩⟩
theorem QG84 : RowGood Tryz.prog q84 := Ev.row_good progOK T84 Ev.rowsH_nil (fuel := 100000) (depth := 300) (nx := 64) (by decide) (by decide +kernel)
def t85 : List Row := q84 :: t84
theorem T85 : ∀ r ∈ t85, RowGood Tryz.prog r := Ev.rows_cons QG84 T84
/-- tributary/node.Replay -/
def q85 : Row := ⟨38, [.agg ⟨[iV 3, iV 3, iV 0, iV 1, .slice none 0 0, .slice none 0 0, .slice none 0 0, .slice none 0 0]⟩, .slice none 0 0], .tuple ⟨[.agg ⟨[iV 3, iV 3, iV 0, iV 1, .slice none 0 0, .slice none 0 0, .slice none 0 0, .slice none 0 0]⟩, iV 0]⟩⟩
theorem QG85 : RowGood Tryz.prog q85 := Ev.row_good progOK T85 Ev.rowsH_nil (fuel := 100000) (depth := 300) (nx := 64) (by decide) (by decide +kernel)
def t86 : List Row := q85 :: t85
theorem T86 : ∀ r ∈ t86, RowGood Tryz.prog r := Ev.rows_cons QG85 T85
/-- tributary/path.part -/
def q86 : Row := ⟨303, [sV [102]], .bool true⟩
theorem QG86 : RowGood Tryz.prog q86 := Ev.row_good progOK T86 Ev.rowsH_nil (fuel := 100000) (depth := 300) (nx := 64) (by decide) (by decide +kernel)
def t87 : List Row := q86 :: t86
theorem T87 : ∀ r ∈ t87, RowGood Tryz.prog r := Ev.rows_cons QG86 T86
/-- tributary/effect.rules -/
def q87 : Row := ⟨343, [], .agg ⟨[iV 0, iV 0, iV 511, iV 1000, iV 511, iV 0, iV 0, iV 0]⟩⟩
theorem QG87 : RowGood Tryz.prog q87 := Ev.row_good progOK T87 Ev.rowsH_nil (fuel := 100000) (depth := 300) (nx := 64) (by decide) (by decide +kernel)
def t88 : List Row := q87 :: t87
theorem T88 : ∀ r ∈ t88, RowGood Tryz.prog r := Ev.rows_cons QG87 T87
/-- tributary/shown.Get -/
def q88 : Row := ⟨184, [.slice none 0 0, sV [102]], .tuple ⟨[.agg ⟨[sV [], iV 0, iV 0, .slice none 0 0, .slice none 0 0]⟩, .bool false]⟩⟩
theorem QG88 : RowGood Tryz.prog q88 := Ev.row_good progOK T88 Ev.rowsH_nil (fuel := 100000) (depth := 300) (nx := 64) (by decide) (by decide +kernel)
def t89 : List Row := q88 :: t88
theorem T89 : ∀ r ∈ t89, RowGood Tryz.prog r := Ev.rows_cons QG88 T88
/-- tributary/dot.Check -/
def q89 : Row := ⟨227, [.agg ⟨[iV 3, iV 1]⟩], iV 0⟩
theorem QG89 : RowGood Tryz.prog q89 := Ev.row_good progOK T89 Ev.rowsH_nil (fuel := 100000) (depth := 300) (nx := 64) (by decide) (by decide +kernel)
def t90 : List Row := q89 :: t89
theorem T90 : ∀ r ∈ t90, RowGood Tryz.prog r := Ev.rows_cons QG89 T89
/-- tributary/past.Last -/
def q90 : Row := ⟨443, [.slice none 0 0, iV 3], iV 0⟩
theorem QG90 : RowGood Tryz.prog q90 := Ev.row_good progOK T90 Ev.rowsH_nil (fuel := 100000) (depth := 300) (nx := 64) (by decide) (by decide +kernel)
def t91 : List Row := q90 :: t90
theorem T91 : ∀ r ∈ t91, RowGood Tryz.prog r := Ev.rows_cons QG90 T90
/-- tributary/past.Has -/
def q91 : Row := ⟨456, [.slice none 0 0, .agg ⟨[iV 3, iV 1]⟩], .bool false⟩
theorem QG91 : RowGood Tryz.prog q91 := Ev.row_good progOK T91 Ev.rowsH_nil (fuel := 100000) (depth := 300) (nx := 64) (by decide) (by decide +kernel)
def t92 : List Row := q91 :: t91
theorem T92 : ∀ r ∈ t92, RowGood Tryz.prog r := Ev.rows_cons QG91 T91
/-- tributary/node.may -/
def q92 : Row := ⟨151, [.agg ⟨[iV 7, iV 4, iV 0, iV 0, sV [], iV 0, iV 0, .slice none 0 0, .slice none 0 0, sV [], iV 0, iV 0, .slice none 0 0, .slice none 0 0, iV 0, iV 0, .slice none 0 0]⟩], .bool true⟩
theorem QG92 : RowGood Tryz.prog q92 := Ev.row_good progOK T92 Ev.rowsH_nil (fuel := 100000) (depth := 300) (nx := 64) (by decide) (by decide +kernel)
def t93 : List Row := q92 :: t92
theorem T93 : ∀ r ∈ t93, RowGood Tryz.prog r := Ev.rows_cons QG92 T92
/-- tributary/node.find$1 -/
def q93 : Row := ⟨462, [.agg ⟨[iV 2, .slice none 0 0]⟩, iV 2], iV 0⟩
theorem QG93 : RowGood Tryz.prog q93 := Ev.row_good progOK T93 Ev.rowsH_nil (fuel := 100000) (depth := 300) (nx := 64) (by decide) (by decide +kernel)
def t94 : List Row := q93 :: t93
theorem T94 : ∀ r ∈ t94, RowGood Tryz.prog r := Ev.rows_cons QG93 T93
/-- tributary/node.may -/
def q94 : Row := ⟨151, [.agg ⟨[iV 6, iV 2, iV 0, iV 0, sV [], iV 0, iV 0, .slice none 0 0, .slice none 0 0, sV [], iV 0, iV 0, .slice none 0 0, .slice none 0 0, iV 0, iV 0, .slice none 0 0]⟩], .bool true⟩
theorem QG94 : RowGood Tryz.prog q94 := Ev.row_good progOK T94 Ev.rowsH_nil (fuel := 100000) (depth := 300) (nx := 64) (by decide) (by decide +kernel)
def t95 : List Row := q94 :: t94
theorem T95 : ∀ r ∈ t95, RowGood Tryz.prog r := Ev.rows_cons QG94 T94
/-- tributary/node.may -/
def q95 : Row := ⟨151, [.agg ⟨[iV 7, iV 5, iV 0, iV 0, sV [], iV 0, iV 0, .slice none 0 0, .slice none 0 0, sV [], iV 0, iV 0, .slice none 0 0, .slice none 0 0, iV 0, iV 0, .slice none 0 0]⟩], .bool true⟩
theorem QG95 : RowGood Tryz.prog q95 := Ev.row_good progOK T95 Ev.rowsH_nil (fuel := 100000) (depth := 300) (nx := 64) (by decide) (by decide +kernel)
def t96 : List Row := q95 :: t95
theorem T96 : ∀ r ∈ t96, RowGood Tryz.prog r := Ev.rows_cons QG95 T95
end Go.Proofs.YtggnokfchfipaaaGreatDoor.Q
