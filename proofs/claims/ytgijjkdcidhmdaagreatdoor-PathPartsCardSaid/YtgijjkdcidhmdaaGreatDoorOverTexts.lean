/- tributarykit.OverTexts: all places of an own row, up to its cap, are written over; elder blocks stay. -/
import Derived.Test.YtgijjkdcidhmdaaGreatDoorQ1
import Derived.Great.Walk
set_option linter.unusedVariables false
namespace Go.Proofs.YtgijjkdcidhmdaaGreatDoor
open Go.RowKit Go.Proofs.YtgijjkdcidhmdaaGreatDoorW.PrintWords Go.Proofs.YtgijjkdcidhmdaaGreatDoorW.PrintLast Go.Proofs.YtgijjkdcidhmdaaGreatDoorW.PrintMore

set_option maxHeartbeats 8000000 in
set_option maxRecDepth 100000 in
theorem over_texts_some (g n cap base : Nat) (cur : Array Value) (w0 w : World) (hb : base ≤ g) (hg : w.heap[g]? = some (.cells cur 9 (0, 0))) (hn : n ≤ cap) (hcap : cap ≤ maxLen) (hs : cur.size = cap) (HB0 : Below base w0 w) :
    Calls Tryz.prog 56 #[.slice (some ⟨g, 0, none⟩) n cap] w fun e w' => e = .returned (.tuple #[]) ∧ Below base w0 w' := by
  have HB := Aside0.mk HB0
  clear HB0
  have hm : (cap : Int) ≤ 9223372036854775807 := by unfold maxLen at hcap; omega
  go_enter Tryz.func56, Tryz.ntmps56
  go_wp2
  go_loopg [3] (cap + 1) (fun kq v3 w' => ∃ (i : Nat) (cu : Array Value), v3 = .int .i64 (i : Int) ∧ Aside0 (i + kq = cap + 1) ∧ Aside0 (i ≤ cap) ∧ Aside0 (Below base w0 w') ∧ Aside0 (w'.heap[g]? = some (.cells cu 9 (0, 0))) ∧ Aside0 (cu.size = cap))
  case atStart => exact ⟨0, cur, rfl, ⟨by omega⟩, ⟨by omega⟩, HB, ⟨hg⟩, ⟨hs⟩⟩
  case round =>
    obtain ⟨i, cu, rfl, HK, HI, HW, HG, HS⟩ := hrel
    have hgr := HG.out
    by_cases hi : i < cap
    · have e1 : decide ((i : Int) < (cap : Int)) = true := decide_eq_true (by omega)
      have e2 : 0 ≤ (i : Int) := by omega
      have e3 : (i : Int) < (cap : Int) := by omega
      have e4 : wrap64 ((i : Int) + 1) = ((i + 1 : Nat) : Int) := by unfold wrap64; omega
      have hcell := cell_of_row wr g i cu 9 (0, 0) hgr
      have hfr := frozen_of_row wr g i cu 9 hgr
      have hsz := HS.out
      have hsome : cu[i]? = some cu[i]! := by rw [getElem!_pos cu i (by omega)]; exact Array.getElem?_eq_getElem (by omega)
      rw [hsome] at hcell
      go_wp2
      go_roundg (cap - i)
      case measure => have := HK.out; omega
      case rel =>
        refine ⟨i + 1, cu.setIfInBounds i (.string ⟨#[111, 118, 101, 114]⟩), ?_, ⟨by omega⟩, ⟨by omega⟩, ⟨HW.out.setCell hb _⟩, ⟨heap_setCell_same _ _ _ _ _ _ hgr⟩, ⟨by rw [Array.size_setIfInBounds]; exact hsz⟩⟩
        first | rfl | (rw [e4])
    · have e1 : decide ((i : Int) < (cap : Int)) = false := decide_eq_false (by omega)
      go_wp2
      exact Go.Great.bodyPost_end0 rfl rfl ⟨rfl, HW.out⟩

set_option maxHeartbeats 8000000 in
set_option maxRecDepth 100000 in
theorem over_texts_none (w : World) : Calls Tryz.prog 56 #[.slice none 0 0] w fun e w' => e = .returned (.tuple #[]) ∧ w' = w := by
  go_enter Tryz.func56, Tryz.ntmps56
  go_wp2
  go_loopg [3] 1 (fun kq v3 w' => v3 = .int .i64 0 ∧ w' = w)
  case atStart => exact ⟨rfl, rfl⟩
  case round =>
    obtain ⟨rfl, rfl⟩ := hrel
    go_wp2
    exact Go.Great.bodyPost_end0 rfl rfl ⟨rfl, rfl⟩

theorem over_texts {ok : Nat → Prop} (v : Value) (l : List ByteArray) (base : Nat) (w0 w : World) (hR : Kd.R Kd.string 9 w base ok v l) (HB : Below base w0 w) :
    Calls Tryz.prog 56 #[v] w fun e w' => e = .returned (.tuple #[]) ∧ Below base w0 w' := by
  obtain ⟨inner, ho⟩ := Kd.R_own hR
  rcases ho.2 with ⟨rfl, _⟩ | ⟨g, cap, cur, rfl, hb, hg, hn, hcap, hs, _⟩
  · exact (over_texts_none w).mono fun e w' h => ⟨h.1, by rw [h.2]; exact HB⟩
  · exact over_texts_some g _ cap base cur w0 w hb hg hn hcap (by simpa [Kd.string, Kd.scalar] using hs) HB
end Go.Proofs.YtgijjkdcidhmdaaGreatDoor
