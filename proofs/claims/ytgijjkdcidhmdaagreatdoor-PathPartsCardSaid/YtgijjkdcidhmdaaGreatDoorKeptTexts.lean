/- tributarykit.KeptTexts: what was lent reads as it was lent, its tail too. -/
import Derived.Test.YtgijjkdcidhmdaaGreatDoorUStrs
import Derived.Test.YtgijjkdcidhmdaaGreatDoorLentTexts
import Derived.DataElems
set_option linter.unusedVariables false
namespace Go.Proofs.YtgijjkdcidhmdaaGreatDoor
open Go.RowKit Go.Proofs.YtgijjkdcidhmdaaGreatDoorW.PrintWords Go.Proofs.YtgijjkdcidhmdaaGreatDoorW.PrintLast Go.Proofs.YtgijjkdcidhmdaaGreatDoorW.PrintMore

theorem C_head {α : Type} {d : Kd α} {w : World} {A : Option Addr} {a b : List α} (h : d.C w A (a ++ b).length (a ++ b)) : d.C w A a.length a := by
  refine ⟨rfl, by have := h.2.1; rw [List.length_append] at this; omega, fun hp => ?_⟩
  obtain ⟨ad, e, hc⟩ := h.2.2 (by rw [List.length_append]; omega)
  exact ⟨ad, e, fun j p hj => hc j p (by rw [List.getElem?_append_left (List.getElem?_eq_some_iff.1 hj).1]; exact hj)⟩

theorem C_tail {α : Type} {d : Kd α} {w : World} {x : Addr} {a b : List α} (h : d.C w (some x) (a ++ b).length (a ++ b)) : d.C w (some (x.add (a.length * d.sz))) b.length b := by
  refine ⟨rfl, by have := h.2.1; rw [List.length_append] at this; omega, fun hp => ?_⟩
  obtain ⟨ad, e, hc⟩ := h.2.2 (by rw [List.length_append]; omega)
  cases e
  refine ⟨_, rfl, fun j p hj => ?_⟩
  obtain ⟨c, h1, h2, h3⟩ := hc (a.length + j) p (by rw [List.getElem?_append_right (by omega), show a.length + j - a.length = j by omega]; exact hj)
  refine ⟨c, h1, h2, fun i u hu => ?_⟩
  have := h3 i u hu
  rw [← this, Addr.add_add]
  congr 2
  rw [Nat.add_mul]
  exact (Nat.add_assoc _ _ _).symm

theorem lit_C (w : World) : Kd.C Kd.string (w.alloc (.cells #[.string ⟨#[120]⟩, .string ⟨#[121]⟩, .string ⟨#[122]⟩] 9)) (some ⟨w.heap.size, 0, none⟩) tailT.length tailT := by
  refine Kd.C_of_reads (d := ByteArray.empty) ⟨rfl, by simp [tailT], fun _ => ⟨_, rfl, fun j hj => ?_⟩⟩
  have h : (w.alloc (.cells #[.string ⟨#[120]⟩, .string ⟨#[121]⟩, .string ⟨#[122]⟩] 9)).heap[w.heap.size]? = some (.cells #[.string ⟨#[120]⟩, .string ⟨#[121]⟩, .string ⟨#[122]⟩] 9 (0, 0)) := Go.heap_alloc_new _ _
  have h2 : (⟨w.heap.size, 0, none⟩ : Addr).add j = ⟨w.heap.size, j, none⟩ := by simp only [Addr.add]; split <;> simp_all
  rw [h2, cell_of_row _ _ _ _ _ _ h]
  have hj' : j < 3 := hj
  match j, hj' with
  | 0, _ => rfl
  | 1, _ => rfl
  | 2, _ => rfl

set_option maxHeartbeats 8000000 in
set_option maxRecDepth 100000 in
theorem kept_texts (A : Option Addr) (A0 : Option Addr) (c0 : Nat) (l0 : List ByteArray) (w : World) (hr : Kd.C Kd.string w A (l0 ++ tailT).length (l0 ++ tailT)) (hr0 : Kd.C Kd.string w A0 l0.length l0) (hc0 : l0.length ≤ c0) (hl : l0.length < 8796093022100) :
    Calls Tryz.prog 57 #[.slice A l0.length (l0.length + 3), .slice A0 l0.length c0] w fun e w' => e = .returned (.bool true) ∧ Below w.heap.size w w' := by
  obtain ⟨x, rfl, _⟩ := hr.2.2 (by simp [tailT])
  have HA := Aside0.mk (C_head hr)
  have HT := Aside0.mk (C_tail hr)
  have HR0 := Aside0.mk hr0
  clear hr hr0
  obtain ⟨K1, h1⟩ := Q.same_eq l0 l0 (by omega)
  obtain ⟨K2, h2⟩ := Q.same_eq tailT tailT (by simp [tailT])
  have A1 := Aside0.mk (h1 (K1 + K2) (by omega))
  have A2 := Aside0.mk (h2 (K1 + K2) (by omega))
  rw [decide_eq_true rfl] at A1 A2
  clear h1 h2
  have e3 : wrap64 ((l0.length : Int) + 3) = (l0.length : Int) + 3 := by unfold wrap64; omega
  go_enter Tryz.func57, Tryz.ntmps57
  go_wp2_with fail
  refine (Q.tributarykit_SameTexts.calls _ _ _ l0 _ _ l0 true w HA.out (by omega) HR0.out hc0 A1.out).mono ?_
  rintro e w' ⟨rfl, ⟨nd, rfl⟩⟩
  go_wp2_with fail
  rw [show l0.length + 3 - l0.length = 3 by omega]
  have hb : Below w.heap.size w ((w.drewN nd).alloc (.cells #[.string ⟨#[120]⟩, .string ⟨#[121]⟩, .string ⟨#[122]⟩] 9)) := below_alloc (pw_below_drewN (Below.refl _ _) _) _
  refine (Q.tributarykit_SameTexts.calls _ _ _ tailT _ _ tailT true _ (Kd.C_below (by have := HT.out; simpa [Kd.string, Kd.scalar] using this) hb) (by simp [tailT]) (lit_C _) (by simp [tailT]) A2.out).mono ?_
  rintro e w' ⟨rfl, ⟨nd2, rfl⟩⟩
  go_wp2_with fail
  go_ret
  exact ⟨rfl, pw_below_drewN hb _⟩
end Go.Proofs.YtgijjkdcidhmdaaGreatDoor
