/- ScriptNone: the law's walk at some lengths, part B: the evaluator reckons it, in the kernel. No conditions. -/
import Derived.Test.YtpaaopmmmfjkhaaGreatDoorUScriptNoneT
import Derived.Test.YtpaaopmmmfjkhaaGreatDoorProg
import Derived.KernelRfl
set_option linter.unusedVariables false
set_option maxRecDepth 1000000
namespace Go.Proofs.YtpaaopmmmfjkhaaGreatDoor.Q.ScriptNone
open Go.RowKit
open Go.Proofs.YtpaaopmmmfjkhaaGreatDoor.Ev (sV bV iV bL tL sl sx pt mp nS nP nM u3 u6 i3 bT bF ag K0 K1 Fm Row RowGood RowH RowHGood LO)
def r9 : Row := ⟨3, [.slice (some ⟨61, 0, some us.length⟩) 9 9], .bool true⟩
theorem RL9 : Ev.rowLOk (Ev.envK Tryz.prog Q.awakeS.exts Q.awakeS.srs [Q.awakeS.r] [] [3, 5, 15]) 100000 300 64 (List.replicate 9 us).flatten r9 = true := by decide +kernel
theorem walk9 (w : World) {σ : Ev.Sg} {v' : Value} (R : Ev.Rel σ (Ev.lentH (List.replicate 9 us).flatten) 64 w) (ha : Ev.VR σ (.slice (some ⟨61, 0, some us.length⟩) 9 9) v') : Calls Tryz.prog 3 ⟨[v']⟩ w fun e w' => e = .returned (.bool true) ∧ Below w.heap.size w w' :=
  Ev.rowL_good (U := []) Q.awakeS.progOK T1 Ev.rowsH_nil [3, 5, 15] (by decide) RL9 R (.cons _ _ _ _ ha .nil)
def r10 : Row := ⟨3, [.slice (some ⟨61, 0, some us.length⟩) 10 10], .bool true⟩
theorem RL10 : Ev.rowLOk (Ev.envK Tryz.prog Q.awakeS.exts Q.awakeS.srs [Q.awakeS.r] [] [3, 5, 15]) 100000 300 64 (List.replicate 10 us).flatten r10 = true := by decide +kernel
theorem walk10 (w : World) {σ : Ev.Sg} {v' : Value} (R : Ev.Rel σ (Ev.lentH (List.replicate 10 us).flatten) 64 w) (ha : Ev.VR σ (.slice (some ⟨61, 0, some us.length⟩) 10 10) v') : Calls Tryz.prog 3 ⟨[v']⟩ w fun e w' => e = .returned (.bool true) ∧ Below w.heap.size w w' :=
  Ev.rowL_good (U := []) Q.awakeS.progOK T1 Ev.rowsH_nil [3, 5, 15] (by decide) RL10 R (.cons _ _ _ _ ha .nil)
def r11 : Row := ⟨3, [.slice (some ⟨61, 0, some us.length⟩) 11 11], .bool true⟩
theorem RL11 : Ev.rowLOk (Ev.envK Tryz.prog Q.awakeS.exts Q.awakeS.srs [Q.awakeS.r] [] [3, 5, 15]) 100000 300 64 (List.replicate 11 us).flatten r11 = true := by decide +kernel
theorem walk11 (w : World) {σ : Ev.Sg} {v' : Value} (R : Ev.Rel σ (Ev.lentH (List.replicate 11 us).flatten) 64 w) (ha : Ev.VR σ (.slice (some ⟨61, 0, some us.length⟩) 11 11) v') : Calls Tryz.prog 3 ⟨[v']⟩ w fun e w' => e = .returned (.bool true) ∧ Below w.heap.size w w' :=
  Ev.rowL_good (U := []) Q.awakeS.progOK T1 Ev.rowsH_nil [3, 5, 15] (by decide) RL11 R (.cons _ _ _ _ ha .nil)
def r12 : Row := ⟨3, [.slice (some ⟨61, 0, some us.length⟩) 12 12], .bool true⟩
theorem RL12 : Ev.rowLOk (Ev.envK Tryz.prog Q.awakeS.exts Q.awakeS.srs [Q.awakeS.r] [] [3, 5, 15]) 100000 300 64 (List.replicate 12 us).flatten r12 = true := by decide +kernel
theorem walk12 (w : World) {σ : Ev.Sg} {v' : Value} (R : Ev.Rel σ (Ev.lentH (List.replicate 12 us).flatten) 64 w) (ha : Ev.VR σ (.slice (some ⟨61, 0, some us.length⟩) 12 12) v') : Calls Tryz.prog 3 ⟨[v']⟩ w fun e w' => e = .returned (.bool true) ∧ Below w.heap.size w w' :=
  Ev.rowL_good (U := []) Q.awakeS.progOK T1 Ev.rowsH_nil [3, 5, 15] (by decide) RL12 R (.cons _ _ _ _ ha .nil)
def r13 : Row := ⟨3, [.slice (some ⟨61, 0, some us.length⟩) 13 13], .bool true⟩
theorem RL13 : Ev.rowLOk (Ev.envK Tryz.prog Q.awakeS.exts Q.awakeS.srs [Q.awakeS.r] [] [3, 5, 15]) 100000 300 64 (List.replicate 13 us).flatten r13 = true := by decide +kernel
theorem walk13 (w : World) {σ : Ev.Sg} {v' : Value} (R : Ev.Rel σ (Ev.lentH (List.replicate 13 us).flatten) 64 w) (ha : Ev.VR σ (.slice (some ⟨61, 0, some us.length⟩) 13 13) v') : Calls Tryz.prog 3 ⟨[v']⟩ w fun e w' => e = .returned (.bool true) ∧ Below w.heap.size w w' :=
  Ev.rowL_good (U := []) Q.awakeS.progOK T1 Ev.rowsH_nil [3, 5, 15] (by decide) RL13 R (.cons _ _ _ _ ha .nil)
def r14 : Row := ⟨3, [.slice (some ⟨61, 0, some us.length⟩) 14 14], .bool true⟩
theorem RL14 : Ev.rowLOk (Ev.envK Tryz.prog Q.awakeS.exts Q.awakeS.srs [Q.awakeS.r] [] [3, 5, 15]) 100000 300 64 (List.replicate 14 us).flatten r14 = true := by decide +kernel
theorem walk14 (w : World) {σ : Ev.Sg} {v' : Value} (R : Ev.Rel σ (Ev.lentH (List.replicate 14 us).flatten) 64 w) (ha : Ev.VR σ (.slice (some ⟨61, 0, some us.length⟩) 14 14) v') : Calls Tryz.prog 3 ⟨[v']⟩ w fun e w' => e = .returned (.bool true) ∧ Below w.heap.size w w' :=
  Ev.rowL_good (U := []) Q.awakeS.progOK T1 Ev.rowsH_nil [3, 5, 15] (by decide) RL14 R (.cons _ _ _ _ ha .nil)
def r15 : Row := ⟨3, [.slice (some ⟨61, 0, some us.length⟩) 15 15], .bool true⟩
theorem RL15 : Ev.rowLOk (Ev.envK Tryz.prog Q.awakeS.exts Q.awakeS.srs [Q.awakeS.r] [] [3, 5, 15]) 100000 300 64 (List.replicate 15 us).flatten r15 = true := by decide +kernel
theorem walk15 (w : World) {σ : Ev.Sg} {v' : Value} (R : Ev.Rel σ (Ev.lentH (List.replicate 15 us).flatten) 64 w) (ha : Ev.VR σ (.slice (some ⟨61, 0, some us.length⟩) 15 15) v') : Calls Tryz.prog 3 ⟨[v']⟩ w fun e w' => e = .returned (.bool true) ∧ Below w.heap.size w w' :=
  Ev.rowL_good (U := []) Q.awakeS.progOK T1 Ev.rowsH_nil [3, 5, 15] (by decide) RL15 R (.cons _ _ _ _ ha .nil)
def r16 : Row := ⟨3, [.slice (some ⟨61, 0, some us.length⟩) 16 16], .bool true⟩
theorem RL16 : Ev.rowLOk (Ev.envK Tryz.prog Q.awakeS.exts Q.awakeS.srs [Q.awakeS.r] [] [3, 5, 15]) 100000 300 64 (List.replicate 16 us).flatten r16 = true := by decide +kernel
theorem walk16 (w : World) {σ : Ev.Sg} {v' : Value} (R : Ev.Rel σ (Ev.lentH (List.replicate 16 us).flatten) 64 w) (ha : Ev.VR σ (.slice (some ⟨61, 0, some us.length⟩) 16 16) v') : Calls Tryz.prog 3 ⟨[v']⟩ w fun e w' => e = .returned (.bool true) ∧ Below w.heap.size w w' :=
  Ev.rowL_good (U := []) Q.awakeS.progOK T1 Ev.rowsH_nil [3, 5, 15] (by decide) RL16 R (.cons _ _ _ _ ha .nil)
end Go.Proofs.YtpaaopmmmfjkhaaGreatDoor.Q.ScriptNone
