/- ScriptNone: the law's walk, by cases on how many elements there are. No conditions. -/
import Derived.Test.YtpaaopmmmfjkhaaGreatDoorUScriptNoneA
import Derived.Test.YtpaaopmmmfjkhaaGreatDoorUScriptNoneB
import Derived.Test.YtpaaopmmmfjkhaaGreatDoorUScriptNoneC
import Derived.Test.YtpaaopmmmfjkhaaGreatDoorUScriptNoneD
import Derived.Test.YtpaaopmmmfjkhaaGreatDoorProg
import Derived.KernelRfl
set_option linter.unusedVariables false
set_option maxRecDepth 1000000
namespace Go.Proofs.YtpaaopmmmfjkhaaGreatDoor.Q.ScriptNone
open Go.RowKit
open Go.Proofs.YtpaaopmmmfjkhaaGreatDoor.Ev (sV bV iV bL tL sl sx pt mp nS nP nM u3 u6 i3 bT bF ag K0 K1 Fm Row RowGood RowH RowHGood LO)
def rn : Row := ⟨3, [nS], .bool true⟩
theorem RGn : Ev.rowKOk (Ev.envK Tryz.prog Q.awakeS.exts Q.awakeS.srs [Q.awakeS.r] [] [3, 5, 15]) 100000 300 64 [] rn = true := by decide +kernel
def re : Row := ⟨3, [sl 61 0 0 0 0], .bool true⟩
theorem RGe : Ev.rowKOk (Ev.envK Tryz.prog Q.awakeS.exts Q.awakeS.srs [Q.awakeS.r] [] [3, 5, 15]) 100000 300 64 [] re = true := by decide +kernel
section
variable {H : Type} {enc : TypeId × Value → H} {w : World} {base : Nat} {spare : Nat → Bool} {held : Bool}
theorem z3 : Tryz.prog.cellsOf 3 = 1 := by kernel_rfl
theorem z9 : Tryz.prog.cellsOf 9 = 1 := by kernel_rfl
theorem z44 : Tryz.prog.cellsOf 44 = 1 := by kernel_rfl
theorem z48 : Tryz.prog.cellsOf 48 = 3 := by kernel_rfl
theorem z49 : Tryz.prog.cellsOf 49 = 1 := by kernel_rfl
theorem z51 : Tryz.prog.cellsOf 51 = 9 := by kernel_rfl
theorem elem (n : Nat) (cs : List Value) (x : DataW H × List MemPlace) (h : DataW.trod enc Tryz.prog w base spare held n 51 cs = some x) : Ev.VRL (Ev.Sg.start w) us cs := by
  have hl : cs.length = 9 := by
    obtain ⟨_, _, _, _, hl, _⟩ := DataW.trod_struct Tryz.underlying51 h
    rw [hl, z51]
  obtain ⟨c0, c1, c2, c3, c4, c5, c6, c7, c8, rfl⟩ : ∃ c0 c1 c2 c3 c4 c5 c6 c7 c8, cs = [c0, c1, c2, c3, c4, c5, c6, c7, c8] := by
    rcases cs with _ | ⟨c0, cs⟩
    · simp at hl
    rcases cs with _ | ⟨c1, cs⟩
    · simp at hl
    rcases cs with _ | ⟨c2, cs⟩
    · simp at hl
    rcases cs with _ | ⟨c3, cs⟩
    · simp at hl
    rcases cs with _ | ⟨c4, cs⟩
    · simp at hl
    rcases cs with _ | ⟨c5, cs⟩
    · simp at hl
    rcases cs with _ | ⟨c6, cs⟩
    · simp at hl
    rcases cs with _ | ⟨c7, cs⟩
    · simp at hl
    rcases cs with _ | ⟨c8, cs⟩
    · simp at hl
    rcases cs with _ | ⟨c, cs⟩
    · exact ⟨c0, c1, c2, c3, c4, c5, c6, c7, c8, rfl⟩
    · simp at hl
  obtain ⟨xs0, m0, e0, _, _, hx0, hf0⟩ := DataW.trod_struct Tryz.underlying51 h
  have g0_0 := hf0 0 _ rfl
  rw [List.getElem?_eq_getElem (by rw [hx0]; decide)] at g0_0
  change DataW.trod enc Tryz.prog w base spare held m0 3 (([c0, c1, c2, c3, c4, c5, c6, c7, c8].drop 0).take (Tryz.prog.cellsOf 3)) = _ at g0_0
  rw [z3] at g0_0
  change DataW.trod enc Tryz.prog w base spare held m0 3 [c0] = _ at g0_0
  have g0_1 := hf0 1 _ rfl
  rw [List.getElem?_eq_getElem (by rw [hx0]; decide)] at g0_1
  change DataW.trod enc Tryz.prog w base spare held m0 3 (([c0, c1, c2, c3, c4, c5, c6, c7, c8].drop 1).take (Tryz.prog.cellsOf 3)) = _ at g0_1
  rw [z3] at g0_1
  change DataW.trod enc Tryz.prog w base spare held m0 3 [c1] = _ at g0_1
  have g0_2 := hf0 2 _ rfl
  rw [List.getElem?_eq_getElem (by rw [hx0]; decide)] at g0_2
  change DataW.trod enc Tryz.prog w base spare held m0 3 (([c0, c1, c2, c3, c4, c5, c6, c7, c8].drop 2).take (Tryz.prog.cellsOf 3)) = _ at g0_2
  rw [z3] at g0_2
  change DataW.trod enc Tryz.prog w base spare held m0 3 [c2] = _ at g0_2
  have g0_3 := hf0 3 _ rfl
  rw [List.getElem?_eq_getElem (by rw [hx0]; decide)] at g0_3
  change DataW.trod enc Tryz.prog w base spare held m0 9 (([c0, c1, c2, c3, c4, c5, c6, c7, c8].drop 3).take (Tryz.prog.cellsOf 9)) = _ at g0_3
  rw [z9] at g0_3
  change DataW.trod enc Tryz.prog w base spare held m0 9 [c3] = _ at g0_3
  have g0_4 := hf0 4 _ rfl
  rw [List.getElem?_eq_getElem (by rw [hx0]; decide)] at g0_4
  change DataW.trod enc Tryz.prog w base spare held m0 9 (([c0, c1, c2, c3, c4, c5, c6, c7, c8].drop 4).take (Tryz.prog.cellsOf 9)) = _ at g0_4
  rw [z9] at g0_4
  change DataW.trod enc Tryz.prog w base spare held m0 9 [c4] = _ at g0_4
  have g0_5 := hf0 5 _ rfl
  rw [List.getElem?_eq_getElem (by rw [hx0]; decide)] at g0_5
  change DataW.trod enc Tryz.prog w base spare held m0 48 (([c0, c1, c2, c3, c4, c5, c6, c7, c8].drop 5).take (Tryz.prog.cellsOf 48)) = _ at g0_5
  rw [z48] at g0_5
  change DataW.trod enc Tryz.prog w base spare held m0 48 [c5, c6, c7] = _ at g0_5
  obtain ⟨xs0_5, m0_5, e0_5, _, _, hx0_5, hf0_5⟩ := DataW.trod_struct Tryz.underlying48 g0_5
  have g0_5_0 := hf0_5 0 _ rfl
  rw [List.getElem?_eq_getElem (by rw [hx0_5]; decide)] at g0_5_0
  change DataW.trod enc Tryz.prog w base spare held m0_5 3 (([c5, c6, c7].drop 0).take (Tryz.prog.cellsOf 3)) = _ at g0_5_0
  rw [z3] at g0_5_0
  change DataW.trod enc Tryz.prog w base spare held m0_5 3 [c5] = _ at g0_5_0
  have g0_5_1 := hf0_5 1 _ rfl
  rw [List.getElem?_eq_getElem (by rw [hx0_5]; decide)] at g0_5_1
  change DataW.trod enc Tryz.prog w base spare held m0_5 3 (([c5, c6, c7].drop 1).take (Tryz.prog.cellsOf 3)) = _ at g0_5_1
  rw [z3] at g0_5_1
  change DataW.trod enc Tryz.prog w base spare held m0_5 3 [c6] = _ at g0_5_1
  have g0_5_2 := hf0_5 2 _ rfl
  rw [List.getElem?_eq_getElem (by rw [hx0_5]; decide)] at g0_5_2
  change DataW.trod enc Tryz.prog w base spare held m0_5 44 (([c5, c6, c7].drop 2).take (Tryz.prog.cellsOf 44)) = _ at g0_5_2
  rw [z44] at g0_5_2
  change DataW.trod enc Tryz.prog w base spare held m0_5 44 [c7] = _ at g0_5_2
  have g0_6 := hf0 6 _ rfl
  rw [List.getElem?_eq_getElem (by rw [hx0]; decide)] at g0_6
  change DataW.trod enc Tryz.prog w base spare held m0 49 (([c0, c1, c2, c3, c4, c5, c6, c7, c8].drop 8).take (Tryz.prog.cellsOf 49)) = _ at g0_6
  rw [z49] at g0_6
  change DataW.trod enc Tryz.prog w base spare held m0 49 [c8] = _ at g0_6
  exact (Ev.VRL.cons _ _ _ _ (Ev.cell_trod (Ev.Sg.start w) _ Tryz.underlying3 g0_0) (Ev.VRL.cons _ _ _ _ (Ev.cell_trod (Ev.Sg.start w) _ Tryz.underlying3 g0_1) (Ev.VRL.cons _ _ _ _ (Ev.cell_trod (Ev.Sg.start w) _ Tryz.underlying3 g0_2) (Ev.VRL.cons _ _ _ _ (Ev.cell_trod (Ev.Sg.start w) _ Tryz.underlying9 g0_3) (Ev.VRL.cons _ _ _ _ (Ev.cell_trod (Ev.Sg.start w) _ Tryz.underlying9 g0_4) (Ev.VRL.cons _ _ _ _ (Ev.cell_trod (Ev.Sg.start w) _ Tryz.underlying3 g0_5_0) (Ev.VRL.cons _ _ _ _ (Ev.cell_trod (Ev.Sg.start w) _ Tryz.underlying3 g0_5_1) (Ev.VRL.cons _ _ _ _ (Ev.cell_trod (Ev.Sg.start w) _ Tryz.underlying44 g0_5_2) (Ev.VRL.cons _ _ _ _ (Ev.cell_trod (Ev.Sg.start w) _ Tryz.underlying49 g0_6) Ev.VRL.nil)))))))))
end
theorem walk_ScriptNone {H : Type} {enc : TypeId × Value → H} (v : Value) (w : World) {base : Nat} {d : DataW H} {p : List MemPlace} (h : Value.okWide Tryz.prog w .any base 22 v) (hk : DataW.Trod enc Tryz.prog w 0 (fun _ => true) true 22 v d p) : Calls Tryz.prog 3 #[v] w fun e w' => e = .returned (.bool true) ∧ Below w.heap.size w w' := by
  rcases Ev.lent_arg (us := us) Tryz.underlying22 z51 (by decide) (fun n cs x hx => elem n cs x hx) (WideShapes.okWide_slice Tryz.underlying22 h) hk with rfl | ⟨a, cap, rfl⟩ | ⟨r, off, n, cap, cs, el, fr, rfl, h1, hc, hb, hs, hv⟩
  · exact Ev.rowK_good (U := []) Q.awakeS.progOK T1 Ev.rowsH_nil [3, 5, 15] (by decide) [] RGn w (Ev.tabs_nil w) (.cons _ _ _ _ (.base _ rfl) .nil)
  · exact Ev.rowK_good (U := []) Q.awakeS.progOK T1 Ev.rowsH_nil [3, 5, 15] (by decide) [] RGe w (Ev.tabs_nil w) (.cons _ _ _ _ (.sle 61 0 a cap) .nil)
  · rcases Nat.lt_or_ge n 31 with hn | hn
    · obtain ⟨σ, R, ha⟩ := Ev.lent_known (us := us) (nx := 64) (by decide) (by decide) hc hb hs (hv n (Nat.le_refl n))
      have hn2 : n = 1 ∨ n = 2 ∨ n = 3 ∨ n = 4 ∨ n = 5 ∨ n = 6 ∨ n = 7 ∨ n = 8 ∨ n = 9 ∨ n = 10 ∨ n = 11 ∨ n = 12 ∨ n = 13 ∨ n = 14 ∨ n = 15 ∨ n = 16 ∨ n = 17 ∨ n = 18 ∨ n = 19 ∨ n = 20 ∨ n = 21 ∨ n = 22 ∨ n = 23 ∨ n = 24 ∨ n = 25 ∨ n = 26 ∨ n = 27 ∨ n = 28 ∨ n = 29 ∨ n = 30 := by omega
      rcases hn2 with rfl | rfl | rfl | rfl | rfl | rfl | rfl | rfl | rfl | rfl | rfl | rfl | rfl | rfl | rfl | rfl | rfl | rfl | rfl | rfl | rfl | rfl | rfl | rfl | rfl | rfl | rfl | rfl | rfl | rfl
      · exact walk1 w R ha
      · exact walk2 w R ha
      · exact walk3 w R ha
      · exact walk4 w R ha
      · exact walk5 w R ha
      · exact walk6 w R ha
      · exact walk7 w R ha
      · exact walk8 w R ha
      · exact walk9 w R ha
      · exact walk10 w R ha
      · exact walk11 w R ha
      · exact walk12 w R ha
      · exact walk13 w R ha
      · exact walk14 w R ha
      · exact walk15 w R ha
      · exact walk16 w R ha
      · exact walk17 w R ha
      · exact walk18 w R ha
      · exact walk19 w R ha
      · exact walk20 w R ha
      · exact walk21 w R ha
      · exact walk22 w R ha
      · exact walk23 w R ha
      · exact walk24 w R ha
      · exact walk25 w R ha
      · exact walk26 w R ha
      · exact walk27 w R ha
      · exact walk28 w R ha
      · exact walk29 w R ha
      · exact walk30 w R ha
    · obtain ⟨σ, R, ha⟩ := Ev.lent_more (us := us) (nx := 64) (m := 31) (by decide) hn hb hs (hv 31 hn)
      exact walk31 w R ha
end Go.Proofs.YtpaaopmmmfjkhaaGreatDoor.Q.ScriptNone
