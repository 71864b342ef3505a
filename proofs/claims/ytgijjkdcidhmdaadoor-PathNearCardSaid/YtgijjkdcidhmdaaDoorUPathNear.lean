/- PathNear: the plain law, and the law's walk. -/
import Derived.Test.YtgijjkdcidhmdaaDoorUPathEq
set_option linter.unusedVariables false
namespace Go.Proofs.YtgijjkdcidhmdaaDoor.Q
open Go.RowKit PX SU Go.Proofs.YtgijjkdcidhmdaaDoorW.PrintWords

theorem pathNear_true (a b : ByteArray) : ∃ k, tributarylaw03_PathNear.f k a b = some true := by
  obtain ⟨K0, h0⟩ := long_eq [a, b] (by simp)
  obtain ⟨K1, h1⟩ := awake_eq
  cases hl : longL [a, b] with
  | true =>
    refine ⟨K0 + K1, ?_⟩
    have h0 := h0 (K0 + K1) (by omega)
    have h1 := h1 (K0 + K1) (by omega)
    rw [hl] at h0
    unfold tributarylaw03_PathNear.f
    simp only [h0, h1, Option.bind_some, if_true]
  | false =>
    have hs := (long_no hl).1
    have ha : a.size < 4294967281 := by have := hs a (by simp); omega
    have hb : b.size < 4294967281 := by have := hs b (by simp); omega
    obtain ⟨K2, h2⟩ := under_eq ha hb
    obtain ⟨K3, h3⟩ := runder_eq ha hb
    obtain ⟨K4, h4⟩ := near_eq ha hb
    obtain ⟨K5, h5⟩ := rnear_eq ha hb
    obtain ⟨K6, h6⟩ := rless_eq ha hb
    refine ⟨K0 + K1 + K2 + K3 + K4 + K5 + K6, ?_⟩
    have h0 := h0 (K0 + K1 + K2 + K3 + K4 + K5 + K6) (by omega)
    have h1 := h1 (K0 + K1 + K2 + K3 + K4 + K5 + K6) (by omega)
    have h2 := h2 (K0 + K1 + K2 + K3 + K4 + K5 + K6) (by omega)
    have h3 := h3 (K0 + K1 + K2 + K3 + K4 + K5 + K6) (by omega)
    have h4 := h4 (K0 + K1 + K2 + K3 + K4 + K5 + K6) (by omega)
    have h5 := h5 (K0 + K1 + K2 + K3 + K4 + K5 + K6) (by omega)
    have h6 := h6 (K0 + K1 + K2 + K3 + K4 + K5 + K6) (by omega)
    rw [hl] at h0
    unfold tributarylaw03_PathNear.f
    simp only [] at h0 h1 h2 h3 h4 h5 h6
    simp only [h0, h1, h2, h3, h4, h5, h6, less_eq ha hb, Option.bind_some, beq_self_eq_true, if_true, Bool.false_eq_true, if_false]

theorem walk_PathNear (a b : ByteArray) (w : World) (ha : a.size ≤ 140737488351232) (hb : b.size ≤ 140737488351232) :
    Calls Tryd.prog 5 #[.string a, .string b] w fun e w' => e = .returned (.bool true) ∧ Below w.heap.size w w' := by
  obtain ⟨k, h⟩ := pathNear_true a b
  exact tributarylaw03_PathNear.calls k a b true w h
end Go.Proofs.YtgijjkdcidhmdaaDoor.Q
