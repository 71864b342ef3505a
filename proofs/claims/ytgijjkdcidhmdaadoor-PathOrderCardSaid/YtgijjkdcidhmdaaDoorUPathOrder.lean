/- PathOrder: the plain law, and the law's walk. -/
import Derived.Test.YtgijjkdcidhmdaaDoorUPathEq
import Derived.Test.YtgijjkdcidhmdaaDoorUPathKnown
import Derived.Test.YtgijjkdcidhmdaaDoorPathPure2
import Derived.Test.YtgijjkdcidhmdaaDoorPathOrderW
set_option linter.unusedVariables false
namespace Go.Proofs.YtgijjkdcidhmdaaDoor.Q
open Go.RowKit PX SU Go.Proofs.YtgijjkdcidhmdaaDoorW.PrintWords

theorem nearL_comm (a b : Bs) : nearL a b = nearL b a := by
  unfold nearL
  by_cases h : a = b
  · subst h; rfl
  · rw [show (a == b) = false by simpa using h, show (b == a) = false by simpa using fun e => h e.symm]
    cases underL a b <;> cases underL b a <;> rfl

theorem j1_end (k : Nat) (a b : ByteArray) (L1 t10 : Bool) (kn : Bool) (hk : kn = true) (ha : a.size < 4294967281) (hb : b.size < 4294967281) (hL : L1 = ltT (D a) (D b))
    (h10 : t10 = true → underL (D a) (D b) = true) (hu : path_Under.f k a b = some (underL (D a) (D b))) (h1 : path_Near.f k a b = some (nearL (D a) (D b))) (h2 : path_Near.f k b a = some (nearL (D b) (D a))) :
    tributarylaw03_PathOrder.j1 (k + 1) a b kn L1 t10 = some true := by
  subst hk
  simp only [tributarylaw03_PathOrder.j1, hu, h1, h2, Option.bind_some, nearL_comm (D a) (D b), beq_self_eq_true, if_true]
  cases hU : underL (D a) (D b) with
  | false =>
    have : t10 = false := by cases t10 with | false => rfl | true => rw [h10 rfl] at hU; exact hU
    subst this
    rfl
  | true =>
    have : L1 = true := by
      rw [hL]
      unfold underL at hU
      simp only [Bool.and_eq_true] at hU
      exact decide_eq_true (under_lt hU.2)
    subst this
    cases t10 <;> rfl

theorem pathOrder_true (a b c : ByteArray) : ∃ k, tributarylaw03_PathOrder.f k a b c = some true := by
  obtain ⟨K0, h0⟩ := long_eq [a, b, c] (by simp)
  have h1 := pathKnown_true
  have hkn : ∀ k, 40 ≤ k → tributarylaw03_PathKnown.f k = some true := by
    obtain ⟨K, hK⟩ := Ev.of tributarylaw03_PathKnown.mono (k := 40) pathKnown_true
    intro k hk
    have : ∀ d, tributarylaw03_PathKnown.f (40 + d) = some true := by
      intro d; induction d with
      | zero => exact pathKnown_true
      | succ d ih => exact tributarylaw03_PathKnown.mono (40 + d) _ ih
    have := this (k - 40)
    rwa [show 40 + (k - 40) = k by omega] at this
  cases hl : longL [a, b, c] with
  | true =>
    refine ⟨K0 + 40, ?_⟩
    have h0 := h0 (K0 + 40) (by omega)
    have h1 := hkn (K0 + 40) (by omega)
    rw [hl] at h0
    unfold tributarylaw03_PathOrder.f
    simp only [h0, h1, Option.bind_some, if_true]
  | false =>
    have hs := (long_no hl).1
    have ha : a.size < 4294967281 := by have := hs a (by simp); omega
    have hb : b.size < 4294967281 := by have := hs b (by simp); omega
    have hc : c.size < 4294967281 := by have := hs c (by simp); omega
    obtain ⟨K2, h2⟩ := under_eq ha hb
    obtain ⟨K3, h3⟩ := under_eq ha hc
    obtain ⟨K4, h4⟩ := near_eq ha hb
    obtain ⟨K5, h5⟩ := near_eq hb ha
    obtain ⟨K, hK⟩ : ∃ K, K = K0 + 40 + K2 + K3 + K4 + K5 := ⟨_, rfl⟩
    have g0 := h0 (K + 2) (by omega)
    have g1 := hkn (K + 2) (by omega)
    have g2 := h2 K (by omega)
    have g3 := h3 (K + 1) (by omega)
    have g4 := h4 K (by omega)
    have g5 := h5 K (by omega)
    rw [hl] at g0
    simp only [] at g0 g1 g2 g3 g4 g5
    have lab := less_eq ha hb
    have lba := less_eq hb ha
    have laa := less_eq ha ha
    have lbc := less_eq hb hc
    have lac := less_eq ha hc
    have e1 := ltT_tot.irr (D a)
    have J1 : ∀ t10 : Bool, (t10 = true → underL (D a) (D b) = true) → tributarylaw03_PathOrder.j1 (K + 1) a b true (ltT (D a) (D b)) t10 = some true := fun t10 h10 =>
      j1_end K a b _ t10 true rfl ha hb rfl h10 g2 g4 g5
    have J0 : tributarylaw03_PathOrder.j0 (K + 2) a b c true (ltT (D a) (D b)) false = some true := by
      simp only [tributarylaw03_PathOrder.j0, Bool.false_eq_true, if_false, lbc, g3, check_eq hb, Option.bind_some]
      cases x1 : ltT (D a) (D b) with
      | false => rw [x1] at J1; simp only [Bool.false_eq_true, if_false]; exact J1 false (fun h => by cases h)
      | true =>
        rw [x1] at J1
        simp only [if_true]
        cases x2 : ltT (D b) (D c) with
        | false => simp only [Bool.false_eq_true, if_false]; exact J1 false (fun h => by cases h)
        | true =>
          simp only [if_true]
          cases x3 : underL (D a) (D c) with
          | false => simp only [Bool.false_eq_true, if_false]; exact J1 false (fun h => by cases h)
          | true =>
            simp only [if_true]
            cases x4 : checkL (D b) with
            | false => exact J1 false (fun h => by cases h)
            | true =>
              refine J1 true (fun _ => ?_)
              unfold underL at x3 ⊢
              simp only [Bool.and_eq_true] at x3 ⊢
              exact ⟨⟨x3.1.1, x4⟩, between_under (of_decide_eq_true x1) (of_decide_eq_true x2) x3.2⟩
    refine ⟨K + 2, ?_⟩
    unfold tributarylaw03_PathOrder.f
    simp only [g0, g1, lab, lba, laa, lbc, lac, e1, Option.bind_some, Bool.false_eq_true, if_false]
    cases x1 : ltT (D a) (D b) with
    | true =>
      rw [x1] at J0
      have x2 := ltT_tot.asymm x1
      have x3 : (a.toList == b.toList) = false := by
        rw [toList_D, toList_D]
        simp only [beq_eq_false_iff_ne, ne_eq]
        intro e
        rw [e, ltT_tot.irr] at x1
        cases x1
      rw [x2, x3]
      cases x4 : ltT (D b) (D c) with
      | false => simpa using J0
      | true =>
        have x5 := ltT_tot.tr _ _ _ x1 x4
        rw [x5]
        simpa using J0
    | false =>
      rw [x1] at J0
      have x3 : (a.toList == b.toList) = !ltT (D b) (D a) := by
        rw [toList_D, toList_D]
        cases x2 : ltT (D b) (D a) with
        | true =>
          simp only [Bool.not_true, beq_eq_false_iff_ne, ne_eq]
          intro e
          rw [e, ltT_tot.irr] at x2
          cases x2
        | false => simp only [Bool.not_false, beq_iff_eq]; exact ltT_tot.tot _ _ x1 x2
      rw [x3]
      simpa using J0

theorem walk_PathOrder (a b c : ByteArray) (w : World) (ha : a.size ≤ 140737488351232) (hb : b.size ≤ 140737488351232) (hc : c.size ≤ 140737488351232) :
    Calls Tryd.prog 6 #[.string a, .string b, .string c] w fun e w' => e = .returned (.bool true) ∧ Below w.heap.size w w' := by
  obtain ⟨k, h⟩ := pathOrder_true a b c
  exact tributarylaw03_PathOrder.calls k a b c true w h
end Go.Proofs.YtgijjkdcidhmdaaDoor.Q
