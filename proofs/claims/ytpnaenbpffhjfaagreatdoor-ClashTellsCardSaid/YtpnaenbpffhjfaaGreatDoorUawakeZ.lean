/- awakeZ: what the evaluation asks of the program once, a table of 2 answers that the evaluator reckoned, in the kernel, and the call of the chapter's examples. No conditions. -/
import Derived.Test.YtpnaenbpffhjfaaGreatDoorEy6
import Derived.Test.YtpnaenbpffhjfaaGreatDoorProg
import Derived.KernelRfl
set_option linter.unusedVariables false
set_option maxRecDepth 1000000
namespace Go.Proofs.YtpnaenbpffhjfaaGreatDoor.Q.awakeZ
open Go.RowKit
open Go.Proofs.YtpnaenbpffhjfaaGreatDoor.Ev (sV bV iV bL tL sl sx pt mp nS nP nM u3 u6 i3 bT bF ag K0 K1 Fm Row RowGood)
def exts : List (Nat × Ev.Ext) := [(200, .compare), (234, .indexByte)]
def srs : List (Nat × Nat × Bool) := []
theorem draws : Tryz.prog.follows .mixedOrders = true := by kernel_rfl
theorem names : Ev.NameGood Tryz.prog := Ev.names_good (n := 260) (by kernel_rfl) (by decide +kernel)
theorem progOK : Ev.ProgOK Tryz.prog exts srs where
  draws := draws
  names := names
  exts p hp := by
    simp only [exts, List.mem_cons, List.not_mem_nil, or_false] at hp
    rcases hp with rfl | rfl
    · exact ⟨Tryz.f200, by kernel_rfl, by kernel_rfl, by kernel_rfl, by kernel_rfl, trivial⟩
    · exact ⟨Tryz.f234, by kernel_rfl, by kernel_rfl, by kernel_rfl, by kernel_rfl, trivial⟩
  srs p hp := by
    exact (List.not_mem_nil hp).elim
def Gt (t : List Row) : Prop := ∀ r ∈ t, RowGood Tryz.prog r
def t0:List Row:=[]
theorem T0:Gt t0:=Ev.rows_nil
theorem R {t : List Row} {r : Row} (hT : Gt t) (h : Ev.rowOk (Ev.envT Tryz.prog exts srs t []) 100000 300 64 r = true) : Gt (r :: t) := Ev.rows_cons (Ev.row_good progOK hT Ev.rowsH_nil (by decide) h) hT
def t1:List Row:=⟨188,[sV [97,98,99,100,101,102,103,104,105,106,107,108,109,110,111,112,113,114,115,116,117,118,119,120,121,122,48,49,50,51,52,53,54,55,56,57,46,95,45]],.tuple ⟨[ag [bF,bF,bF,bF,bF,bF,bF,bF,bF,bF,bF,bF,bF,bF,bF,bF,bF,bF,bF,bF,bF,bF,bF,bF,bF,bF,bF,bF,bF,bF,bF,bF,bF,bF,bF,bF,bF,bF,bF,bF,bF,bF,bF,bF,bF,bT,bT,bF,bT,bT,bT,bT,bT,bT,bT,bT,bT,bT,bF,bF,bF,bF,bF,bF,bF,bF,bF,bF,bF,bF,bF,bF,bF,bF,bF,bF,bF,bF,bF,bF,bF,bF,bF,bF,bF,bF,bF,bF,bF,bF,bF,bF,bF,bF,bF,bT,bF,bT,bT,bT,bT,bT,bT,bT,bT,bT,bT,bT,bT,bT,bT,bT,bT,bT,bT,bT,bT,bT,bT,bT,bT,bT,bT,bF,bF,bF,bF,bF,bF,bF,bF,bF,bF,bF,bF,bF,bF,bF,bF,bF,bF,bF,bF,bF,bF,bF,bF,bF,bF,bF,bF,bF,bF,bF,bF,bF,bF,bF,bF,bF,bF,bF,bF,bF,bF,bF,bF,bF,bF,bF,bF,bF,bF,bF,bF,bF,bF,bF,bF,bF,bF,bF,bF,bF,bF,bF,bF,bF,bF,bF,bF,bF,bF,bF,bF,bF,bF,bF,bF,bF,bF,bF,bF,bF,bF,bF,bF,bF,bF,bF,bF,bF,bF,bF,bF,bF,bF,bF,bF,bF,bF,bF,bF,bF,bF,bF,bF,bF,bF,bF,bF,bF,bF,bF,bF,bF,bF,bF,bF,bF,bF,bF,bF,bF,bF,bF,bF,bF,bF,bF,bF,bF,bF,bF,bF,bF],bT]⟩⟩::t0
theorem T1:Gt t1:=R T0 (by decide +kernel)
def t2:List Row:=⟨91,[sV [102]],bT⟩::t1
theorem T2:Gt t2:=R T1 (by decide +kernel)
def r : Row := ⟨12, [], .bool true⟩
theorem RG : RowGood Tryz.prog r := Ev.row_good (U := []) progOK T2 Ev.rowsH_nil (fuel := 100000) (depth := 300) (nx := 64) (by decide) (by decide +kernel)
end Go.Proofs.YtpnaenbpffhjfaaGreatDoor.Q.awakeZ
