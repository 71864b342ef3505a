/- FleetNone: the law's walk: the evaluator reckons it, in the kernel, out of what it reckoned before. No conditions. -/
import Derived.Test.YtlokchnadeldgaaGreatDoorUFleetNoneT
import Derived.Test.YtlokchnadeldgaaGreatDoorProg
import Derived.KernelRfl
set_option linter.unusedVariables false
set_option maxRecDepth 1000000
namespace Go.Proofs.YtlokchnadeldgaaGreatDoor.Q.FleetNone
open Go.RowKit
open Go.Proofs.YtlokchnadeldgaaGreatDoor.Ev (sV bV iV bL tL sl sx pt mp nS nP nM u3 u6 i3 bT bF ag K0 K1 Fm Row RowGood RowH RowHGood LO)
noncomputable def utop : List RowH := []
def r : Row := ⟨4, [ag [Ev.unk 1, Ev.unk 1, Ev.unk 1, Ev.unk 3, Ev.unk 3, Ev.unk 1, Ev.unk 1, Ev.unk 4, Ev.unk 4], Ev.unk 1], .bool true⟩
def tabs : List (Nat × List Value) := []
theorem RG : Ev.rowKOk (Ev.envK Tryz.prog exts srs t1 utop [4, 20, 65]) 100000 300 64 tabs r = true := by decide +kernel
theorem walk_FleetNone_of (w : World) (hl : Ev.TabsIn w tabs) (args' : List Value) (ha : Ev.VRL (Ev.Sg.start w) r.a args') : Calls Tryz.prog 4 ⟨args'⟩ w fun e w' => e = .returned (.bool true) ∧ Below w.heap.size w w' :=
  Ev.rowK_good (U := utop) progOK T1 Ev.rowsH_nil [4, 20, 65] (by decide) tabs RG w hl ha
theorem an0 : ∀ ts, Tryz.prog.cellTypes Tryz.prog.depth 64 = some ts → ts.length = Tryz.prog.cellsOf 64 := by
  intro ts h
  rw [show Tryz.prog.cellTypes Tryz.prog.depth 64 = some [3, 3, 3, 9, 9, 3, 3, 46, 62] by kernel_rfl] at h
  cases h
  kernel_rfl
theorem an1 : ∀ ts, Tryz.prog.cellTypes Tryz.prog.depth 3 = some ts → ts.length = Tryz.prog.cellsOf 3 := by
  intro ts h
  rw [show Tryz.prog.cellTypes Tryz.prog.depth 3 = some [3] by kernel_rfl] at h
  cases h
  kernel_rfl
theorem args_eq : [Ev.unkArg Tryz.prog 64, Ev.unkArg Tryz.prog 3] = r.a := by kernel_rfl
theorem walk_FleetNone (v0 : Value) (v1 : Value) (w : World) {base0 base1 : Nat} (h0 : Value.okWide Tryz.prog w .any base0 64 v0) (h1 : Value.okWide Tryz.prog w .any base1 3 v1) : Calls Tryz.prog 4 #[v0, v1] w fun e w' => e = .returned (.bool true) ∧ Below w.heap.size w w' :=
  walk_FleetNone_of w (Ev.tabs_nil w) [v0, v1] (args_eq ▸ Ev.VRL.cons _ _ _ _ (Ev.arg_unk (Ev.Sg.start w) an0 h0) (Ev.VRL.cons _ _ _ _ (Ev.arg_unk (Ev.Sg.start w) an1 h1) (Ev.VRL.nil)))
end Go.Proofs.YtlokchnadeldgaaGreatDoor.Q.FleetNone
