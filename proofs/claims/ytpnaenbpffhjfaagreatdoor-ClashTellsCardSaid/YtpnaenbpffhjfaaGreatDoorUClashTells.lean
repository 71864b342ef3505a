/- ClashTells: the law's walk: whatever two events are handed in, the call answers true and leaves what there was as it was. Conditions: what the statement's form says of its arguments. -/
import Derived.Test.YtpnaenbpffhjfaaGreatDoorZE
import Derived.Test.YtpnaenbpffhjfaaGreatDoorPathCheck
import Derived.Test.YtpnaenbpffhjfaaGreatDoorUawakeZ
set_option linter.unusedVariables false
set_option linter.unusedSimpArgs false
set_option maxRecDepth 100000
namespace Go.Proofs.YtpnaenbpffhjfaaGreatDoor.Q.ClashTells
open Go.RowKit Go.Proofs.YtpnaenbpffhjfaaGreatDoor.Ev Go.Proofs.YtpnaenbpffhjfaaGreatDoor.Z1
theorem path_ok (s : ByteArray) (h : pathS s = true) : FnOk Tryz.prog 38 [eS s] (.int .i64 (pathI ck s)) := by
  have hs : lenB s < 1000000 := by simpa [pathS] using h
  rw [lenB_eq] at hs
  exact calls_fn awakeZ.names Tryz.func38 (by kernel_rfl) rfl rfl fun w => check_in s (by omega) w
theorem awake_ok : FnOk Tryz.prog 12 [] (.bool true) := row_fn awakeZ.RG
theorem walk_ClashTells {H : Type} {enc : TypeId × Value → H} {base b0 b1 : Nat} {spare : Nat → Bool} {held : Bool} {r0 r1 : Reach} (v0 v1 : Value) (w : World) (o0 : Value.okWide Tryz.prog w r0 b0 29 v0) (o1 : Value.okWide Tryz.prog w r1 b1 29 v1) {d0 d1 : DataW H} {p0 p1 : List MemPlace} (k0 : DataW.Trod enc Tryz.prog w base spare held 29 v0 d0 p0) (k1 : DataW.Trod enc Tryz.prog w base spare held 29 v1 d1 p1) :
    Calls Tryz.prog 3 #[v0, v1] w fun e w' => e = .returned (.bool true) ∧ Below w.heap.size w w' := by
  obtain ⟨a, ha⟩ := arg_evn o0 k0
  obtain ⟨b, hb⟩ := arg_evn o1 k1
  exact fn_calls (tells awakeZ.progOK rfl path_ok awake_ok a b) (.cons _ _ _ _ ha (.cons _ _ _ _ hb .nil))
end Go.Proofs.YtpnaenbpffhjfaaGreatDoor.Q.ClashTells
