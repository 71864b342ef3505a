/- ScriptNone: the law's walk at some lengths, part A: the evaluator reckons it, in the kernel. No conditions. -/
import Derived.Test.YtpaaopmmmfjkhaaGreatDoorUScriptNoneT
import Derived.Test.YtpaaopmmmfjkhaaGreatDoorProg
import Derived.KernelRfl
set_option linter.unusedVariables false
set_option maxRecDepth 1000000
namespace Go.Proofs.YtpaaopmmmfjkhaaGreatDoor.Q.ScriptNone
open Go.RowKit
open Go.Proofs.YtpaaopmmmfjkhaaGreatDoor.Ev (sV bV iV bL tL sl sx pt mp nS nP nM u3 u6 i3 bT bF ag K0 K1 Fm Row RowGood RowH RowHGood LO)
def r1 : Row := ⟨3, [.slice (some ⟨61, 0, some us.length⟩) 1 1], .bool true⟩
theorem RL1 : Ev.rowLOk (Ev.envK Tryz.prog Q.awakeS.exts Q.awakeS.srs [Q.awakeS.r] [] [3, 5, 15]) 100000 300 64 (List.replicate 1 us).flatten r1 = true := by decide +kernel
theorem walk1 (w : World) {σ : Ev.Sg} {v' : Value} (R : Ev.Rel σ (Ev.lentH (List.replicate 1 us).flatten) 64 w) (ha : Ev.VR σ (.slice (some ⟨61, 0, some us.length⟩) 1 1) v') : Calls Tryz.prog 3 ⟨[v']⟩ w fun e w' => e = .returned (.bool true) ∧ Below w.heap.size w w' :=
  Ev.rowL_good (U := []) Q.awakeS.progOK T1 Ev.rowsH_nil [3, 5, 15] (by decide) RL1 R (.cons _ _ _ _ ha .nil)
def r2 : Row := ⟨3, [.slice (some ⟨61, 0, some us.length⟩) 2 2], .bool true⟩
theorem RL2 : Ev.rowLOk (Ev.envK Tryz.prog Q.awakeS.exts Q.awakeS.srs [Q.awakeS.r] [] [3, 5, 15]) 100000 300 64 (List.replicate 2 us).flatten r2 = true := by decide +kernel
theorem walk2 (w : World) {σ : Ev.Sg} {v' : Value} (R : Ev.Rel σ (Ev.lentH (List.replicate 2 us).flatten) 64 w) (ha : Ev.VR σ (.slice (some ⟨61, 0, some us.length⟩) 2 2) v') : Calls Tryz.prog 3 ⟨[v']⟩ w fun e w' => e = .returned (.bool true) ∧ Below w.heap.size w w' :=
  Ev.rowL_good (U := []) Q.awakeS.progOK T1 Ev.rowsH_nil [3, 5, 15] (by decide) RL2 R (.cons _ _ _ _ ha .nil)
def r3 : Row := ⟨3, [.slice (some ⟨61, 0, some us.length⟩) 3 3], .bool true⟩
theorem RL3 : Ev.rowLOk (Ev.envK Tryz.prog Q.awakeS.exts Q.awakeS.srs [Q.awakeS.r] [] [3, 5, 15]) 100000 300 64 (List.replicate 3 us).flatten r3 = true := by decide +kernel
theorem walk3 (w : World) {σ : Ev.Sg} {v' : Value} (R : Ev.Rel σ (Ev.lentH (List.replicate 3 us).flatten) 64 w) (ha : Ev.VR σ (.slice (some ⟨61, 0, some us.length⟩) 3 3) v') : Calls Tryz.prog 3 ⟨[v']⟩ w fun e w' => e = .returned (.bool true) ∧ Below w.heap.size w w' :=
  Ev.rowL_good (U := []) Q.awakeS.progOK T1 Ev.rowsH_nil [3, 5, 15] (by decide) RL3 R (.cons _ _ _ _ ha .nil)
def r4 : Row := ⟨3, [.slice (some ⟨61, 0, some us.length⟩) 4 4], .bool true⟩
theorem RL4 : Ev.rowLOk (Ev.envK Tryz.prog Q.awakeS.exts Q.awakeS.srs [Q.awakeS.r] [] [3, 5, 15]) 100000 300 64 (List.replicate 4 us).flatten r4 = true := by decide +kernel
theorem walk4 (w : World) {σ : Ev.Sg} {v' : Value} (R : Ev.Rel σ (Ev.lentH (List.replicate 4 us).flatten) 64 w) (ha : Ev.VR σ (.slice (some ⟨61, 0, some us.length⟩) 4 4) v') : Calls Tryz.prog 3 ⟨[v']⟩ w fun e w' => e = .returned (.bool true) ∧ Below w.heap.size w w' :=
  Ev.rowL_good (U := []) Q.awakeS.progOK T1 Ev.rowsH_nil [3, 5, 15] (by decide) RL4 R (.cons _ _ _ _ ha .nil)
def r5 : Row := ⟨3, [.slice (some ⟨61, 0, some us.length⟩) 5 5], .bool true⟩
theorem RL5 : Ev.rowLOk (Ev.envK Tryz.prog Q.awakeS.exts Q.awakeS.srs [Q.awakeS.r] [] [3, 5, 15]) 100000 300 64 (List.replicate 5 us).flatten r5 = true := by decide +kernel
theorem walk5 (w : World) {σ : Ev.Sg} {v' : Value} (R : Ev.Rel σ (Ev.lentH (List.replicate 5 us).flatten) 64 w) (ha : Ev.VR σ (.slice (some ⟨61, 0, some us.length⟩) 5 5) v') : Calls Tryz.prog 3 ⟨[v']⟩ w fun e w' => e = .returned (.bool true) ∧ Below w.heap.size w w' :=
  Ev.rowL_good (U := []) Q.awakeS.progOK T1 Ev.rowsH_nil [3, 5, 15] (by decide) RL5 R (.cons _ _ _ _ ha .nil)
def r6 : Row := ⟨3, [.slice (some ⟨61, 0, some us.length⟩) 6 6], .bool true⟩
theorem RL6 : Ev.rowLOk (Ev.envK Tryz.prog Q.awakeS.exts Q.awakeS.srs [Q.awakeS.r] [] [3, 5, 15]) 100000 300 64 (List.replicate 6 us).flatten r6 = true := by decide +kernel
theorem walk6 (w : World) {σ : Ev.Sg} {v' : Value} (R : Ev.Rel σ (Ev.lentH (List.replicate 6 us).flatten) 64 w) (ha : Ev.VR σ (.slice (some ⟨61, 0, some us.length⟩) 6 6) v') : Calls Tryz.prog 3 ⟨[v']⟩ w fun e w' => e = .returned (.bool true) ∧ Below w.heap.size w w' :=
  Ev.rowL_good (U := []) Q.awakeS.progOK T1 Ev.rowsH_nil [3, 5, 15] (by decide) RL6 R (.cons _ _ _ _ ha .nil)
def r7 : Row := ⟨3, [.slice (some ⟨61, 0, some us.length⟩) 7 7], .bool true⟩
theorem RL7 : Ev.rowLOk (Ev.envK Tryz.prog Q.awakeS.exts Q.awakeS.srs [Q.awakeS.r] [] [3, 5, 15]) 100000 300 64 (List.replicate 7 us).flatten r7 = true := by decide +kernel
theorem walk7 (w : World) {σ : Ev.Sg} {v' : Value} (R : Ev.Rel σ (Ev.lentH (List.replicate 7 us).flatten) 64 w) (ha : Ev.VR σ (.slice (some ⟨61, 0, some us.length⟩) 7 7) v') : Calls Tryz.prog 3 ⟨[v']⟩ w fun e w' => e = .returned (.bool true) ∧ Below w.heap.size w w' :=
  Ev.rowL_good (U := []) Q.awakeS.progOK T1 Ev.rowsH_nil [3, 5, 15] (by decide) RL7 R (.cons _ _ _ _ ha .nil)
def r8 : Row := ⟨3, [.slice (some ⟨61, 0, some us.length⟩) 8 8], .bool true⟩
theorem RL8 : Ev.rowLOk (Ev.envK Tryz.prog Q.awakeS.exts Q.awakeS.srs [Q.awakeS.r] [] [3, 5, 15]) 100000 300 64 (List.replicate 8 us).flatten r8 = true := by decide +kernel
theorem walk8 (w : World) {σ : Ev.Sg} {v' : Value} (R : Ev.Rel σ (Ev.lentH (List.replicate 8 us).flatten) 64 w) (ha : Ev.VR σ (.slice (some ⟨61, 0, some us.length⟩) 8 8) v') : Calls Tryz.prog 3 ⟨[v']⟩ w fun e w' => e = .returned (.bool true) ∧ Below w.heap.size w w' :=
  Ev.rowL_good (U := []) Q.awakeS.progOK T1 Ev.rowsH_nil [3, 5, 15] (by decide) RL8 R (.cons _ _ _ _ ha .nil)
end Go.Proofs.YtpaaopmmmfjkhaaGreatDoor.Q.ScriptNone
