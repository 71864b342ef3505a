/- ScriptNone: the law's walk at some lengths, part C: the evaluator reckons it, in the kernel. No conditions. -/
import Derived.Test.YtpaaopmmmfjkhaaGreatDoorUScriptNoneT
import Derived.Test.YtpaaopmmmfjkhaaGreatDoorProg
import Derived.KernelRfl
set_option linter.unusedVariables false
set_option maxRecDepth 1000000
namespace Go.Proofs.YtpaaopmmmfjkhaaGreatDoor.Q.ScriptNone
open Go.RowKit
open Go.Proofs.YtpaaopmmmfjkhaaGreatDoor.Ev (sV bV iV bL tL sl sx pt mp nS nP nM u3 u6 i3 bT bF ag K0 K1 Fm Row RowGood RowH RowHGood LO)
def r17 : Row := ⟨3, [.slice (some ⟨61, 0, some us.length⟩) 17 17], .bool true⟩
theorem RL17 : Ev.rowLOk (Ev.envK Tryz.prog Q.awakeS.exts Q.awakeS.srs [Q.awakeS.r] [] [3, 5, 15]) 100000 300 64 (List.replicate 17 us).flatten r17 = true := by decide +kernel
theorem walk17 (w : World) {σ : Ev.Sg} {v' : Value} (R : Ev.Rel σ (Ev.lentH (List.replicate 17 us).flatten) 64 w) (ha : Ev.VR σ (.slice (some ⟨61, 0, some us.length⟩) 17 17) v') : Calls Tryz.prog 3 ⟨[v']⟩ w fun e w' => e = .returned (.bool true) ∧ Below w.heap.size w w' :=
  Ev.rowL_good (U := []) Q.awakeS.progOK T1 Ev.rowsH_nil [3, 5, 15] (by decide) RL17 R (.cons _ _ _ _ ha .nil)
def r18 : Row := ⟨3, [.slice (some ⟨61, 0, some us.length⟩) 18 18], .bool true⟩
theorem RL18 : Ev.rowLOk (Ev.envK Tryz.prog Q.awakeS.exts Q.awakeS.srs [Q.awakeS.r] [] [3, 5, 15]) 100000 300 64 (List.replicate 18 us).flatten r18 = true := by decide +kernel
theorem walk18 (w : World) {σ : Ev.Sg} {v' : Value} (R : Ev.Rel σ (Ev.lentH (List.replicate 18 us).flatten) 64 w) (ha : Ev.VR σ (.slice (some ⟨61, 0, some us.length⟩) 18 18) v') : Calls Tryz.prog 3 ⟨[v']⟩ w fun e w' => e = .returned (.bool true) ∧ Below w.heap.size w w' :=
  Ev.rowL_good (U := []) Q.awakeS.progOK T1 Ev.rowsH_nil [3, 5, 15] (by decide) RL18 R (.cons _ _ _ _ ha .nil)
def r19 : Row := ⟨3, [.slice (some ⟨61, 0, some us.length⟩) 19 19], .bool true⟩
theorem RL19 : Ev.rowLOk (Ev.envK Tryz.prog Q.awakeS.exts Q.awakeS.srs [Q.awakeS.r] [] [3, 5, 15]) 100000 300 64 (List.replicate 19 us).flatten r19 = true := by decide +kernel
theorem walk19 (w : World) {σ : Ev.Sg} {v' : Value} (R : Ev.Rel σ (Ev.lentH (List.replicate 19 us).flatten) 64 w) (ha : Ev.VR σ (.slice (some ⟨61, 0, some us.length⟩) 19 19) v') : Calls Tryz.prog 3 ⟨[v']⟩ w fun e w' => e = .returned (.bool true) ∧ Below w.heap.size w w' :=
  Ev.rowL_good (U := []) Q.awakeS.progOK T1 Ev.rowsH_nil [3, 5, 15] (by decide) RL19 R (.cons _ _ _ _ ha .nil)
def r20 : Row := ⟨3, [.slice (some ⟨61, 0, some us.length⟩) 20 20], .bool true⟩
theorem RL20 : Ev.rowLOk (Ev.envK Tryz.prog Q.awakeS.exts Q.awakeS.srs [Q.awakeS.r] [] [3, 5, 15]) 100000 300 64 (List.replicate 20 us).flatten r20 = true := by decide +kernel
theorem walk20 (w : World) {σ : Ev.Sg} {v' : Value} (R : Ev.Rel σ (Ev.lentH (List.replicate 20 us).flatten) 64 w) (ha : Ev.VR σ (.slice (some ⟨61, 0, some us.length⟩) 20 20) v') : Calls Tryz.prog 3 ⟨[v']⟩ w fun e w' => e = .returned (.bool true) ∧ Below w.heap.size w w' :=
  Ev.rowL_good (U := []) Q.awakeS.progOK T1 Ev.rowsH_nil [3, 5, 15] (by decide) RL20 R (.cons _ _ _ _ ha .nil)
def r21 : Row := ⟨3, [.slice (some ⟨61, 0, some us.length⟩) 21 21], .bool true⟩
theorem RL21 : Ev.rowLOk (Ev.envK Tryz.prog Q.awakeS.exts Q.awakeS.srs [Q.awakeS.r] [] [3, 5, 15]) 100000 300 64 (List.replicate 21 us).flatten r21 = true := by decide +kernel
theorem walk21 (w : World) {σ : Ev.Sg} {v' : Value} (R : Ev.Rel σ (Ev.lentH (List.replicate 21 us).flatten) 64 w) (ha : Ev.VR σ (.slice (some ⟨61, 0, some us.length⟩) 21 21) v') : Calls Tryz.prog 3 ⟨[v']⟩ w fun e w' => e = .returned (.bool true) ∧ Below w.heap.size w w' :=
  Ev.rowL_good (U := []) Q.awakeS.progOK T1 Ev.rowsH_nil [3, 5, 15] (by decide) RL21 R (.cons _ _ _ _ ha .nil)
def r22 : Row := ⟨3, [.slice (some ⟨61, 0, some us.length⟩) 22 22], .bool true⟩
theorem RL22 : Ev.rowLOk (Ev.envK Tryz.prog Q.awakeS.exts Q.awakeS.srs [Q.awakeS.r] [] [3, 5, 15]) 100000 300 64 (List.replicate 22 us).flatten r22 = true := by decide +kernel
theorem walk22 (w : World) {σ : Ev.Sg} {v' : Value} (R : Ev.Rel σ (Ev.lentH (List.replicate 22 us).flatten) 64 w) (ha : Ev.VR σ (.slice (some ⟨61, 0, some us.length⟩) 22 22) v') : Calls Tryz.prog 3 ⟨[v']⟩ w fun e w' => e = .returned (.bool true) ∧ Below w.heap.size w w' :=
  Ev.rowL_good (U := []) Q.awakeS.progOK T1 Ev.rowsH_nil [3, 5, 15] (by decide) RL22 R (.cons _ _ _ _ ha .nil)
def r23 : Row := ⟨3, [.slice (some ⟨61, 0, some us.length⟩) 23 23], .bool true⟩
theorem RL23 : Ev.rowLOk (Ev.envK Tryz.prog Q.awakeS.exts Q.awakeS.srs [Q.awakeS.r] [] [3, 5, 15]) 100000 300 64 (List.replicate 23 us).flatten r23 = true := by decide +kernel
theorem walk23 (w : World) {σ : Ev.Sg} {v' : Value} (R : Ev.Rel σ (Ev.lentH (List.replicate 23 us).flatten) 64 w) (ha : Ev.VR σ (.slice (some ⟨61, 0, some us.length⟩) 23 23) v') : Calls Tryz.prog 3 ⟨[v']⟩ w fun e w' => e = .returned (.bool true) ∧ Below w.heap.size w w' :=
  Ev.rowL_good (U := []) Q.awakeS.progOK T1 Ev.rowsH_nil [3, 5, 15] (by decide) RL23 R (.cons _ _ _ _ ha .nil)
def r24 : Row := ⟨3, [.slice (some ⟨61, 0, some us.length⟩) 24 24], .bool true⟩
theorem RL24 : Ev.rowLOk (Ev.envK Tryz.prog Q.awakeS.exts Q.awakeS.srs [Q.awakeS.r] [] [3, 5, 15]) 100000 300 64 (List.replicate 24 us).flatten r24 = true := by decide +kernel
theorem walk24 (w : World) {σ : Ev.Sg} {v' : Value} (R : Ev.Rel σ (Ev.lentH (List.replicate 24 us).flatten) 64 w) (ha : Ev.VR σ (.slice (some ⟨61, 0, some us.length⟩) 24 24) v') : Calls Tryz.prog 3 ⟨[v']⟩ w fun e w' => e = .returned (.bool true) ∧ Below w.heap.size w w' :=
  Ev.rowL_good (U := []) Q.awakeS.progOK T1 Ev.rowsH_nil [3, 5, 15] (by decide) RL24 R (.cons _ _ _ _ ha .nil)
end Go.Proofs.YtpaaopmmmfjkhaaGreatDoor.Q.ScriptNone
