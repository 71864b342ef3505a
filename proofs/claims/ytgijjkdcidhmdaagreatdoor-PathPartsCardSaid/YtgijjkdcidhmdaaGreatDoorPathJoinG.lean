/- strings.Join in the print's form. -/
import Derived.Test.YtgijjkdcidhmdaaGreatDoorJoinLay
import Derived.Test.YtgijjkdcidhmdaaGreatDoorWWords
import Derived.Test.YtgijjkdcidhmdaaGreatDoorWInv
import Derived.Lib.Join
set_option linter.unusedVariables false
namespace Go.Proofs.YtgijjkdcidhmdaaGreatDoor
open Go.RowKit Go.Shelf Go.Proofs.YtgijjkdcidhmdaaGreatDoorW.PrintWords

theorem joinExtra : Builder.Extra Tryz.prog Tryz.laysJoin_ren where
  sizeBuilder := by kernel_rfl
  liesBuilder := by kernel_rfl
  t5 := Tryz.underlying5
  a5 := Tryz.isAgg5
  z5 := Tryz.sizeOf5
  v5 := Tryz.zeroValue5
  infoByte := by kernel_rfl
  cellsByte := by kernel_rfl
  sizeByte := by kernel_rfl
  neB5 := by decide

def strings_Join.f (l0 : List ByteArray) (a1 : ByteArray) : Option ByteArray :=
  if l0.length ≤ 140737488355328 ∧ (Lib.join (l0.map (·.data.toList)) a1.data.toList).length ≤ 140737488355328 then some ⟨(Lib.join (l0.map (·.data.toList)) a1.data.toList).toArray⟩ else none

theorem strings_Join.calls (A0 : Option Addr) (c0 : Nat) (l0 : List ByteArray) (a1 : ByteArray) (r : ByteArray) (w : World) (hr0 : Kd.C Kd.string w A0 l0.length l0) (hc0 : l0.length ≤ c0) (h : strings_Join.f l0 a1 = some r) :
    Calls Tryz.prog 112 #[.slice A0 l0.length c0, .string a1] w fun e w' => e = .returned (.string r) ∧ Below w.heap.size w w' := by
  unfold strings_Join.f at h
  split at h
  case isFalse => cases h
  case isTrue hh =>
    obtain rfl := Option.some.inj h
    by_cases hl : l0.length = 0
    · have e : l0 = [] := List.length_eq_zero_iff.1 hl
      subst e
      exact (Any.strings_Join_none Tryz.laysJoin joinExtra A0 c0 a1 w).mono fun e w' h => ⟨h.1, by rw [h.2]; exact Below.refl _ _⟩
    · have hr := Kd.reads_of_C (d := ByteArray.empty) hr0
      obtain ⟨ad, rfl, hc⟩ := hr.2.2 (by omega)
      obtain ⟨bk, o, sp⟩ := ad
      have h0 := hc 0 (by omega)
      have hsp : sp = none := by
        have := World.cell?_spot h0
        simpa [Addr.add] using this
      subst hsp
      have hlt : bk < w.heap.size := by
        have := World.block_lt_of_cell? w _ h0
        simpa [Addr.add] using this
      refine Any.strings_Join Tryz.laysJoin joinExtra bk o c0 l0 a1 w (fun j x hx => ?_) hlt hh.1 hc0 hh.2
      obtain ⟨hj, e⟩ := List.getElem?_eq_some_iff.1 hx
      have := hc j hj
      have ea : (⟨bk, o, none⟩ : Addr).add j = ⟨bk, o + j, none⟩ := by simp only [Addr.add]; split <;> simp_all
      rw [ea] at this
      rw [this, List.getD_eq_getElem?_getD, hx]
      rfl
end Go.Proofs.YtgijjkdcidhmdaaGreatDoor
