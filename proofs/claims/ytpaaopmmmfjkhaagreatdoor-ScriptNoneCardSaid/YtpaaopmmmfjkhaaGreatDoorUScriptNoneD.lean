/- ScriptNone: the law's walk at some lengths, part D: the evaluator reckons it, in the kernel. No conditions. -/
import Derived.Test.YtpaaopmmmfjkhaaGreatDoorUScriptNoneT
import Derived.Test.YtpaaopmmmfjkhaaGreatDoorProg
import Derived.KernelRfl
set_option linter.unusedVariables false
set_option maxRecDepth 1000000
namespace Go.Proofs.YtpaaopmmmfjkhaaGreatDoor.Q.ScriptNone
open Go.RowKit
open Go.Proofs.YtpaaopmmmfjkhaaGreatDoor.Ev (sV bV iV bL tL sl sx pt mp nS nP nM u3 u6 i3 bT bF ag K0 K1 Fm Row RowGood RowH RowHGood LO)
def r25 : Row := ⟨3, [.slice (some ⟨61, 0, some us.length⟩) 25 25], .bool true⟩
theorem RL25 : Ev.rowLOk (Ev.envK Tryz.prog Q.awakeS.exts Q.awakeS.srs [Q.awakeS.r] [] [3, 5, 15]) 100000 300 64 (List.replicate 25 us).flatten r25 = true := by decide +kernel
theorem walk25 (w : World) {σ : Ev.Sg} {v' : Value} (R : Ev.Rel σ (Ev.lentH (List.replicate 25 us).flatten) 64 w) (ha : Ev.VR σ (.slice (some ⟨61, 0, some us.length⟩) 25 25) v') : Calls Tryz.prog 3 ⟨[v']⟩ w fun e w' => e = .returned (.bool true) ∧ Below w.heap.size w w' :=
  Ev.rowL_good (U := []) Q.awakeS.progOK T1 Ev.rowsH_nil [3, 5, 15] (by decide) RL25 R (.cons _ _ _ _ ha .nil)
def r26 : Row := ⟨3, [.slice (some ⟨61, 0, some us.length⟩) 26 26], .bool true⟩
theorem RL26 : Ev.rowLOk (Ev.envK Tryz.prog Q.awakeS.exts Q.awakeS.srs [Q.awakeS.r] [] [3, 5, 15]) 100000 300 64 (List.replicate 26 us).flatten r26 = true := by decide +kernel
theorem walk26 (w : World) {σ : Ev.Sg} {v' : Value} (R : Ev.Rel σ (Ev.lentH (List.replicate 26 us).flatten) 64 w) (ha : Ev.VR σ (.slice (some ⟨61, 0, some us.length⟩) 26 26) v') : Calls Tryz.prog 3 ⟨[v']⟩ w fun e w' => e = .returned (.bool true) ∧ Below w.heap.size w w' :=
  Ev.rowL_good (U := []) Q.awakeS.progOK T1 Ev.rowsH_nil [3, 5, 15] (by decide) RL26 R (.cons _ _ _ _ ha .nil)
def r27 : Row := ⟨3, [.slice (some ⟨61, 0, some us.length⟩) 27 27], .bool true⟩
theorem RL27 : Ev.rowLOk (Ev.envK Tryz.prog Q.awakeS.exts Q.awakeS.srs [Q.awakeS.r] [] [3, 5, 15]) 100000 300 64 (List.replicate 27 us).flatten r27 = true := by decide +kernel
theorem walk27 (w : World) {σ : Ev.Sg} {v' : Value} (R : Ev.Rel σ (Ev.lentH (List.replicate 27 us).flatten) 64 w) (ha : Ev.VR σ (.slice (some ⟨61, 0, some us.length⟩) 27 27) v') : Calls Tryz.prog 3 ⟨[v']⟩ w fun e w' => e = .returned (.bool true) ∧ Below w.heap.size w w' :=
  Ev.rowL_good (U := []) Q.awakeS.progOK T1 Ev.rowsH_nil [3, 5, 15] (by decide) RL27 R (.cons _ _ _ _ ha .nil)
def r28 : Row := ⟨3, [.slice (some ⟨61, 0, some us.length⟩) 28 28], .bool true⟩
theorem RL28 : Ev.rowLOk (Ev.envK Tryz.prog Q.awakeS.exts Q.awakeS.srs [Q.awakeS.r] [] [3, 5, 15]) 100000 300 64 (List.replicate 28 us).flatten r28 = true := by decide +kernel
theorem walk28 (w : World) {σ : Ev.Sg} {v' : Value} (R : Ev.Rel σ (Ev.lentH (List.replicate 28 us).flatten) 64 w) (ha : Ev.VR σ (.slice (some ⟨61, 0, some us.length⟩) 28 28) v') : Calls Tryz.prog 3 ⟨[v']⟩ w fun e w' => e = .returned (.bool true) ∧ Below w.heap.size w w' :=
  Ev.rowL_good (U := []) Q.awakeS.progOK T1 Ev.rowsH_nil [3, 5, 15] (by decide) RL28 R (.cons _ _ _ _ ha .nil)
def r29 : Row := ⟨3, [.slice (some ⟨61, 0, some us.length⟩) 29 29], .bool true⟩
theorem RL29 : Ev.rowLOk (Ev.envK Tryz.prog Q.awakeS.exts Q.awakeS.srs [Q.awakeS.r] [] [3, 5, 15]) 100000 300 64 (List.replicate 29 us).flatten r29 = true := by decide +kernel
theorem walk29 (w : World) {σ : Ev.Sg} {v' : Value} (R : Ev.Rel σ (Ev.lentH (List.replicate 29 us).flatten) 64 w) (ha : Ev.VR σ (.slice (some ⟨61, 0, some us.length⟩) 29 29) v') : Calls Tryz.prog 3 ⟨[v']⟩ w fun e w' => e = .returned (.bool true) ∧ Below w.heap.size w w' :=
  Ev.rowL_good (U := []) Q.awakeS.progOK T1 Ev.rowsH_nil [3, 5, 15] (by decide) RL29 R (.cons _ _ _ _ ha .nil)
def r30 : Row := ⟨3, [.slice (some ⟨61, 0, some us.length⟩) 30 30], .bool true⟩
theorem RL30 : Ev.rowLOk (Ev.envK Tryz.prog Q.awakeS.exts Q.awakeS.srs [Q.awakeS.r] [] [3, 5, 15]) 100000 300 64 (List.replicate 30 us).flatten r30 = true := by decide +kernel
theorem walk30 (w : World) {σ : Ev.Sg} {v' : Value} (R : Ev.Rel σ (Ev.lentH (List.replicate 30 us).flatten) 64 w) (ha : Ev.VR σ (.slice (some ⟨61, 0, some us.length⟩) 30 30) v') : Calls Tryz.prog 3 ⟨[v']⟩ w fun e w' => e = .returned (.bool true) ∧ Below w.heap.size w w' :=
  Ev.rowL_good (U := []) Q.awakeS.progOK T1 Ev.rowsH_nil [3, 5, 15] (by decide) RL30 R (.cons _ _ _ _ ha .nil)
def r31 : Row := ⟨3, [.func (.methodOf 6 "") ⟨[.slice (some ⟨61, 0, none⟩) 31 31]⟩ ⟨[]⟩], .bool true⟩
theorem RL31 : Ev.rowLOk (Ev.envK Tryz.prog Q.awakeS.exts Q.awakeS.srs [Q.awakeS.r] [] [3, 5, 15]) 100000 300 64 (List.replicate 31 us).flatten r31 = true := by decide +kernel
theorem walk31 (w : World) {σ : Ev.Sg} {v' : Value} (R : Ev.Rel σ (Ev.lentH (List.replicate 31 us).flatten) 64 w) (ha : Ev.VR σ (.func (.methodOf 6 "") ⟨[.slice (some ⟨61, 0, none⟩) 31 31]⟩ ⟨[]⟩) v') : Calls Tryz.prog 3 ⟨[v']⟩ w fun e w' => e = .returned (.bool true) ∧ Below w.heap.size w w' :=
  Ev.rowL_good (U := []) Q.awakeS.progOK T1 Ev.rowsH_nil [3, 5, 15] (by decide) RL31 R (.cons _ _ _ _ ha .nil)
end Go.Proofs.YtpaaopmmmfjkhaaGreatDoor.Q.ScriptNone
