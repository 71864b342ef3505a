/- Contracts: cmp.Compare at strings, the comparison of parts, slices.CompareFunc over parts, at this translation. -/
import Derived.Test.YtgijjkdcidhmdaaGreatDoorProg
import Derived.Test.YtgijjkdcidhmdaaGreatDoorPathPure
import Derived.WalkKit
import Derived.WalkLawsBesides
import Derived.LoopTactic
import Derived.Deep.LoopGhost
import Derived.Outline
set_option linter.unusedVariables false
namespace Go.Proofs.YtgijjkdcidhmdaaGreatDoor
open Go.RowKit PX

theorem ba_toList (s : ByteArray) : s.toList = s.data.toList := ByteArray.toList_eq s

theorem ret_int {k : IntKind} {a b : Int} (h : a = b) : Ending.returned (.int k a) = .returned (.int k b) := by rw [h]

theorem isNaN_any (s : ByteArray) (w : World) : Calls Tryz.prog 261 #[.string s] w fun e w' => e = .returned (.bool false) ∧ w = w' := by
  go_enter Tryz.func261, Tryz.ntmps261
  go_wp2
  go_ret
  exact ⟨by simp, rfl⟩

/-- Two texts, as cmp.Compare tells them. -/
def cmpS (a b : ByteArray) : Int := cmpB a.data.toList b.data.toList

theorem compareS_any (a b : ByteArray) (w : World) : Calls Tryz.prog 215 #[.string a, .string b] w fun e w' => e = .returned (.int .i64 (cmpS a b)) ∧ w = w' := by
  have e1 : Op.bytesLess a.toList b.toList = Op.bytesLess a.data.toList b.data.toList := by rw [ba_toList, ba_toList]
  by_cases h1 : Op.bytesLess a.data.toList b.data.toList = true
  · have e : cmpS a b = -1 := by simp [cmpS, cmpB, h1]
    rw [e]
    have h1' : Op.bytesLess a.toList b.toList = true := e1.trans h1
    clear e1 h1 e
    go_enter Tryz.func215, Tryz.ntmps215
    go_wp2_with (go_at_call 261; refine (isNaN_any _ _).mono ?_; rintro e w' ⟨rfl, rfl⟩)
    go_ret
    exact ⟨rfl, rfl⟩
  · have h1' : Op.bytesLess a.toList b.toList = false := by rw [e1]; simpa using h1
    by_cases h2 : a.data.toList = b.data.toList
    · have e : cmpS a b = 0 := by unfold cmpS; exact cmpB_zero.2 h2
      rw [e]
      have h2' : (a.toList == b.toList) = true := by rw [ba_toList, ba_toList, h2]; simp
      have h1'' : (Op.bytesLess a.toList b.toList || a.toList == b.toList) = true := by rw [h2']; simp
      clear e1 h1 e h2
      go_enter Tryz.func215, Tryz.ntmps215
      go_wp2_with (go_at_call 261; refine (isNaN_any _ _).mono ?_; rintro e w' ⟨rfl, rfl⟩)
      go_ret
      exact ⟨rfl, rfl⟩
    · have h3 : Op.bytesLess b.data.toList a.data.toList = true := by
        cases h : Op.bytesLess b.data.toList a.data.toList with
        | true => rfl
        | false => exact absurd (bl_total _ _ (by simpa using h1) h) h2
      have e : cmpS a b = 1 := by simp [cmpS, cmpB, h1, h3]
      rw [e]
      have h2' : (a.toList == b.toList) = false := by rw [ba_toList, ba_toList]; simpa using h2
      have h1'' : (Op.bytesLess a.toList b.toList || a.toList == b.toList) = false := by rw [h2', h1']; rfl
      clear e1 h1 e h2 h3
      go_enter Tryz.func215, Tryz.ntmps215
      go_wp2_with (go_at_call 261; refine (isNaN_any _ _).mono ?_; rintro e w' ⟨rfl, rfl⟩)
      go_ret
      exact ⟨rfl, rfl⟩

theorem order1_any (a b : ByteArray) (w : World) : Calls Tryz.prog 214 #[.string a, .string b] w fun e w' => e = .returned (.int .i64 (cmpS a b)) ∧ w = w' := by
  go_enter Tryz.func214, Tryz.ntmps214
  go_wp2_with (go_at_call 215; refine (compareS_any _ _ _).mono ?_; rintro e w' ⟨rfl, rfl⟩)
  go_ret
  exact ⟨rfl, rfl⟩

/-- The cells from A on hold these texts. -/
def StrsAt (w : World) (ad : Addr) (xs : List ByteArray) : Prop := ∀ j x, xs[j]? = some x → w.cell? (ad.add j) = some (.string x)

def dl (s : ByteArray) : Bs := s.data.toList

set_option maxHeartbeats 400000 in
theorem compareFunc_any (xs ys : List ByteArray) (a b : Addr) (c d : Nat) (w : World) (hx : StrsAt w a xs) (hy : StrsAt w b ys) (lx : xs.length ≤ 9223372036854775807) (ly : ys.length ≤ 9223372036854775807) :
    Calls Tryz.prog 213 #[.slice (some a) xs.length c, .slice (some b) ys.length d, .func (.func 214) #[] #[]] w fun e w' => e = .returned (.int .i64 (cmpLL (xs.map dl) (ys.map dl))) ∧ w = w' := by
  go_enter Tryz.func213, Tryz.ntmps213
  go_wp2
  go_loop [13, 7, 8, 9, 10] (fun i _ _ _ _ => ∃ k : Nat, k ≤ xs.length ∧ k ≤ ys.length ∧ i = .int .i64 k ∧ Hid (cmpLL (xs.map dl) (ys.map dl) = cmpLL ((xs.drop k).map dl) ((ys.drop k).map dl))) (fun i _ _ _ _ => xs.length - (intOf i).toNat)
  case atStart => exact ⟨0, Nat.zero_le _, Nat.zero_le _, rfl, by first | exact ⟨rfl⟩ | exact rfl | trivial⟩
  case round =>
    obtain ⟨k, hk, hk2, rfl, he⟩ := hrel
    by_cases h1 : k < xs.length
    · have hcx := hx k _ (List.getElem?_eq_getElem h1)
      by_cases h2 : k < ys.length
      · have hcy := hy k _ (List.getElem?_eq_getElem h2)
        obtain ⟨x, hxk⟩ : ∃ x, x = xs[k] := ⟨_, rfl⟩
        obtain ⟨y, hyk⟩ : ∃ y, y = ys[k] := ⟨_, rfl⟩
        rw [← hxk] at hcx; rw [← hyk] at hcy
        have hs : Hid (cmpLL ((xs.drop k).map dl) ((ys.drop k).map dl) = if cmpS x y ≠ 0 then cmpS x y else cmpLL ((xs.drop (k + 1)).map dl) ((ys.drop (k + 1)).map dl)) := by
          rw [List.drop_eq_getElem_cons h1, List.drop_eq_getElem_cons h2, hxk, hyk]; rfl
        clear hxk hyk
        by_cases hz : cmpS x y = 0
        · obtain ⟨z, hzz⟩ : ∃ z, z = cmpS x y := ⟨_, rfl⟩
          have hz0 : (z == 0) = true := by rw [hzz]; simpa using hz
          have hc := fun w => order1_any x y w
          rw [← hzz] at hc
          have HE : Hid (cmpLL (xs.map dl) (ys.map dl) = cmpLL ((xs.drop (k + 1)).map dl) ((ys.drop (k + 1)).map dl)) := by
            have := he.out.trans hs.out; rw [if_neg (by simpa using hz)] at this; exact this
          have hn : (z != 0) = false := by simpa using hz0
          clear hs he hz hzz hz0
          go_wp2_with (go_at_call 214; refine (hc _).mono ?_; rintro e w' ⟨rfl, rfl⟩)
          go_round
          case rel => exact ⟨k + 1, by omega, by omega, by go_num, HE⟩
          case measure => simp [intOf]; omega
        · obtain ⟨z, hzz⟩ : ∃ z, z = cmpS x y := ⟨_, rfl⟩
          have hc := fun w => order1_any x y w
          rw [← hzz] at hc
          have HE : Hid (cmpLL (xs.map dl) (ys.map dl) = z) := by
            have := he.out.trans hs.out; rw [if_pos (by simpa using hz)] at this; rw [hzz]; exact this
          have hn : (z != 0) = true := by rw [hzz]; simpa using hz
          clear hs he hz hzz
          go_wp2_with (go_at_call 214; refine (hc _).mono ?_; rintro e w' ⟨rfl, rfl⟩)
          go_ret
          exact ⟨ret_int HE.out.symm, rfl⟩
      · have HE : Hid (cmpLL (xs.map dl) (ys.map dl) = 1) := by
          rw [he.out, List.drop_eq_getElem_cons h1, show ys.drop k = [] from List.drop_eq_nil_of_le (by omega)]; rfl
        clear he
        go_wp2
        go_ret
        exact ⟨ret_int HE.out.symm, rfl⟩
    · have hke : k = xs.length := by omega
      have HE : Hid (cmpLL (xs.map dl) (ys.map dl) = if xs.length < ys.length then -1 else 0) := by
        rw [he.out, show xs.drop k = [] from List.drop_eq_nil_of_le (by omega)]
        by_cases h2 : k < ys.length
        · rw [List.drop_eq_getElem_cons h2, if_pos (by omega)]; rfl
        · rw [show ys.drop k = [] from List.drop_eq_nil_of_le (by omega), if_neg (by omega)]; rfl
      clear he hke
      by_cases h2 : xs.length < ys.length
      · have HE2 : Hid (cmpLL (xs.map dl) (ys.map dl) = -1) := by rw [HE.out, if_pos h2]; exact rfl
        clear HE
        go_wp2
        go_ret
        exact ⟨ret_int HE2.out.symm, rfl⟩
      · have HE2 : Hid (cmpLL (xs.map dl) (ys.map dl) = 0) := by rw [HE.out, if_neg h2]; exact rfl
        clear HE
        go_wp2
        go_ret
        exact ⟨ret_int HE2.out.symm, rfl⟩
end Go.Proofs.YtgijjkdcidhmdaaGreatDoor
