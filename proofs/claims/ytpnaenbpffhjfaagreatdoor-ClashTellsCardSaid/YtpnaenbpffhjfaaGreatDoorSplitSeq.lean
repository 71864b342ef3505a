/- The iterator of strings.SplitSeq at the separator "/": its contract, for every loop body that keeps its boxes. -/
import Derived.Test.YtpnaenbpffhjfaaGreatDoorRange
import Derived.Test.YtpnaenbpffhjfaaGreatDoorPathPure
import Derived.Test.YtpnaenbpffhjfaaGreatDoorLay
import Derived.RangeFuncNested
import Derived.RangeFuncBound
import Derived.RangeFuncCalls
import Derived.RangeFuncLeaves
import Derived.Shelf.Abstract
import Derived.Shelf.RegionOpen
import Derived.WalkKit
import Derived.OwnWalkIn
import Derived.TacticsInMore
import Derived.LoopNIn
import Derived.LoopIn
import Derived.Outline
import Derived.Lib.Hide
set_option linter.unusedVariables false
namespace Go.Proofs.YtpnaenbpffhjfaaGreatDoor
open Go.RowKit Go.Shelf PX
attribute [local go_sem] Oper.semAt_some

def mkB (l : Bs) : ByteArray := ⟨l.toArray⟩
theorem mkB_data (s : ByteArray) : mkB s.data.toList = s := rfl
theorem data_mkB (l : Bs) : (mkB l).data.toList = l := rfl
theorem ba_ext {a b : ByteArray} (h : a.data.toList = b.data.toList) : a = b := by
  cases a; cases b; simpa using h
/-- The pieces of a text between the '/'. -/
def pieces (s : ByteArray) : List ByteArray := (splitL s.data.toList).map mkB

theorem ix_none : ∀ {l : Bs}, Lib.indexByte l 47 = -1 → splitL l = [l]
  | [], _ => rfl
  | c :: t, h => by
    simp only [Lib.indexByte] at h
    split at h
    · cases h
    · rename_i hc
      have hc' : c ≠ 47 := by simpa using hc
      split at h
      · rename_i h2
        have ih := ix_none (l := t) (by simpa using h2)
        simp only [splitL]; rw [if_neg hc', ih]
      · rename_i h2
        have := Lib.indexByte_ge t 47
        have h3 : Lib.indexByte t 47 ≠ -1 := by simpa using h2
        omega
theorem ix_some : ∀ {l : Bs} {k : Nat}, Lib.indexByte l 47 = k → k < l.length ∧ splitL l = l.take k :: splitL (l.drop (k + 1))
  | [], k, h => by simp [Lib.indexByte] at h
  | c :: t, k, h => by
    simp only [Lib.indexByte] at h
    split at h
    · rename_i hc
      have hc' : c = 47 := by simpa using hc
      have : k = 0 := by omega
      subst this
      simp [splitL, hc']
    · rename_i hc
      have hc' : c ≠ 47 := by simpa using hc
      split at h
      · omega
      · rename_i h2
        have h4 := Lib.indexByte_ge t 47
        have h3 : Lib.indexByte t 47 ≠ -1 := by simpa using h2
        obtain ⟨m, rfl⟩ : ∃ m, k = m + 1 := ⟨k - 1, by omega⟩
        obtain ⟨h1, h2⟩ := ix_some (l := t) (k := m) (by omega)
        refine ⟨by simp; omega, ?_⟩
        simp only [splitL]; rw [if_neg hc', h2]; rfl

theorem pieces_none {s : ByteArray} (h : Lib.indexByte s.data.toList 47 = -1) : pieces s = [s] := by
  unfold pieces; rw [ix_none h]; rfl
theorem pieces_some {s : ByteArray} {k : Nat} (h : Lib.indexByte s.data.toList 47 = k) : k + 1 ≤ s.size ∧ pieces s = s.extract 0 k :: pieces (s.extract (k + 1) s.size) := by
  obtain ⟨h1, h2⟩ := ix_some h
  have hsz : s.data.toList.length = s.size := (Lib.size_eq s).symm
  refine ⟨by omega, ?_⟩
  unfold pieces
  rw [h2]
  have e1 : mkB (s.data.toList.take k) = s.extract 0 k := ba_ext (by rw [data_mkB, Lib.extract_data]; simp)
  have e2 : (s.extract (k + 1) s.size).data.toList = s.data.toList.drop (k + 1) := by
    rw [Lib.extract_data]; rw [List.take_of_length_le (by rw [List.length_drop]; omega)]
  rw [e2, List.map_cons, e1]

def StB (B : Nat) (A A' : World) : Prop := ∃ v : ByteArray, A' = A.setCell ⟨B, 0, none⟩ (.string v)
def KpB (B : Nat) (W W' : World) : Prop := ∀ k, k = B ∨ k = B + 1 ∨ k = B + 2 → W'.heap[k]? = W.heap[k]?

def leftB (B : Nat) (W : World) : Nat := match W.cell? ⟨B, 0, none⟩ with | some (.string c) => c.size | _ => 0
theorem leftB_eq {B : Nat} {W : World} {t : TypeId} {c : ByteArray} (h : Boxed W B t (.string c)) : leftB B W = c.size := by
  unfold leftB; rw [h.cell]

set_option maxRecDepth 100000 in
set_option maxHeartbeats 1000000 in
theorem splitSeq1_x (s : ByteArray) (n : Nat) (hn : 1 ≤ n) (B : Nat) (w : World) (hs : Boxed w B 9 (.string s)) (hsep : Boxed w (B + 1) 9 (.string ⟨#[47]⟩)) (hsv : Boxed w (B + 2) 3 (.int .i64 0)) (hsz : s.size ≤ 9223372036854775807) :
    IterX Fence.wide n Tryz.prog 183 #[.pointer (some ⟨B + 1, 0, none⟩), .pointer (some ⟨B, 0, none⟩), .pointer (some ⟨B + 2, 0, none⟩)] (fun x : ByteArray => #[.string x]) (StB B) (KpB B) (pieces s) w := by
  intro l J Jx hJ hJx hY W hK h0
  have hs : Boxed W B 9 (.string s) := (hK B (.inl rfl)).trans hs
  have hsep : Boxed W (B + 1) 9 (.string ⟨#[47]⟩) := (hK _ (.inr (.inl rfl))).trans hsep
  have hsv : Boxed W (B + 2) 3 (.int .i64 0) := (hK _ (.inr (.inr rfl))).trans hsv
  have c1 := hsep.cell
  refine callsIn_of_wp Tryz.func183 rfl trivial ?_ rfl
  simp only [Tryz.ntmps183, List.size_toArray, List.length_cons, List.length_nil, Nat.reduceAdd, Nat.reduceSub, Array.replicate_succ, Array.replicate_zero, List.push_toArray, List.append_toArray, List.nil_append, List.cons_append]
  gi_wp2
  clear c1
  gi_loopw [7, 8] (fun _ _ wr => ∃ (c : ByteArray) (pre : List ByteArray), pieces s = pre ++ pieces c ∧ c.size ≤ s.size ∧ Boxed wr B 9 (.string c) ∧ Boxed wr (B + 1) 9 (.string ⟨#[47]⟩) ∧ Boxed wr (B + 2) 3 (.int .i64 0) ∧ J pre wr) (fun _ _ wr => leftB B wr)
  case atStart => exact ⟨s, [], rfl, Nat.le_refl _, hs, hsep, hsv, h0⟩
  case round =>
    obtain ⟨c, pre, he, hcs, hc, hsep, hsv, hJ0⟩ := hrel
    have cs := hc.cell
    have cp := hsep.cell
    have cv := hsv.cell
    have fs := hc.frozen
    obtain ⟨i, hi⟩ : ∃ i, Lib.indexByte c.data.toList 47 = i := ⟨_, rfl⟩
    have hcon := fun w => Any.strings_Index_one Tryz.lays143 c 47 w
    rw [hi] at hcon
    have hge := Lib.indexByte_ge c.data.toList 47
    rw [hi] at hge
    by_cases hneg : i < 0
    · have hp := pieces_none (s := c) (by omega)
      rw [hp] at he
      obtain ⟨fn, tmps, assign, body, hy, hR⟩ := hY pre c wr hJ0 (by rw [he]; exact List.prefix_refl _)
      have HE := Lib.hid he
      clear he hp hi hge
      gi_wp2_with (refine ⟨trivial, ?_⟩; gi_at_call 185; refine (callsIn_wide.2 (hcon _)).mono ?_; rintro e w' ⟨rfl, rfl⟩)
      refine hR.mono ?_
      rintro e W3 (⟨rfl, hJ3, hk3⟩ | ⟨rfl, hJx3⟩)
      · gi_wp2
        refine bodyPost_end (results_none rfl _ _ _) rfl ?_
        exact ⟨⟨_, rfl⟩, .inl (by rw [HE.out]; exact hJ3)⟩
      · gi_wp2
        refine bodyPost_end (results_none rfl _ _ _) rfl ?_
        exact ⟨⟨_, rfl⟩, .inr ⟨pre ++ [c], by rw [HE.out]; exact List.prefix_refl _, hJx3⟩⟩
    · obtain ⟨k, rfl⟩ := Int.eq_ofNat_of_zero_le (by omega : 0 ≤ i)
      obtain ⟨hk, hp⟩ := pieces_some hi
      rw [hp] at he
      obtain ⟨fn, tmps, assign, body, hy, hR⟩ := hY pre (c.extract 0 k) wr hJ0 (by rw [he]; exact ⟨pieces (c.extract (k + 1) c.size), by simp⟩)
      have HE := Lib.hid he
      clear he hp hi hge
      gi_wp2_with (refine ⟨trivial, ?_⟩; gi_at_call 185; refine (callsIn_wide.2 (hcon _)).mono ?_; rintro e w' ⟨rfl, rfl⟩)
      refine hR.mono ?_
      rintro e W3 (⟨rfl, hJ3, hk3⟩ | ⟨rfl, hJx3⟩)
      · have hc3 : Boxed W3 B 9 (.string c) := (hk3 B (.inl rfl)).trans hc
        have hsep3 : Boxed W3 (B + 1) 9 (.string ⟨#[47]⟩) := (hk3 _ (.inr (.inl rfl))).trans hsep
        have hsv3 : Boxed W3 (B + 2) 3 (.int .i64 0) := (hk3 _ (.inr (.inr rfl))).trans hsv
        have cs3 := hc3.cell
        have cp3 := hsep3.cell
        have fs3 := hc3.frozen
        gi_wp2
        go_roundw
        case rel =>
          refine ⟨c.extract (k + 1) c.size, pre ++ [c.extract 0 k], ?_, ?_, hc3.set _, ?_, ?_, hJ _ _ _ hJ3 ⟨_, rfl⟩⟩
          · rw [HE.out]; simp
          · simp; omega
          · exact (Below.heap_setCell _ _ _ _ (by simp)).trans hsep3
          · exact (Below.heap_setCell _ _ _ _ (by simp)).trans hsv3
        case measure =>
          rw [leftB_eq (hc3.set _), leftB_eq hc]; simp; omega
      · gi_wp2
        refine bodyPost_ret (results_none rfl _ _ _) rfl ?_
        exact ⟨⟨_, rfl⟩, .inr ⟨pre ++ [c.extract 0 k], ⟨pieces (c.extract (k + 1) c.size), by rw [HE.out]; simp⟩, hJx3⟩⟩
end Go.Proofs.YtpnaenbpffhjfaaGreatDoor
