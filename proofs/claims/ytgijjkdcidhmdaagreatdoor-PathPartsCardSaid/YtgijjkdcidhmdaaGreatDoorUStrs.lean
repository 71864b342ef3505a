/- Slices of texts: SameTexts; an argument that is a slice of texts. -/
import Derived.Test.YtgijjkdcidhmdaaGreatDoorUPathEq
import Derived.SliceStrings
import Derived.ProofKit
import Derived.SizedLaws
import Derived.OpenShut
set_option linter.unusedVariables false
namespace Go.Proofs.YtgijjkdcidhmdaaGreatDoor.SU
theorem insU_len {α : Type} [DecidableEq α] {lt : α → α → Bool} (x : α) : ∀ l : List α, (insU lt x l).length ≤ l.length + 1
  | [] => by simp [insU]
  | y :: t => by
    simp only [insU]
    split
    · simp
    · split
      · simp
      · have := insU_len (lt := lt) x t; simp; omega
theorem sortU_len {α : Type} [DecidableEq α] {lt : α → α → Bool} : ∀ l : List α, (sortU lt l).length ≤ l.length
  | [] => by simp [sortU]
  | x :: l => by
    have h1 := sortU_len (lt := lt) l
    have h2 := insU_len (lt := lt) x (sortU lt l)
    simp only [sortU, List.length_cons]; omega
end Go.Proofs.YtgijjkdcidhmdaaGreatDoor.SU
namespace Go.Proofs.YtgijjkdcidhmdaaGreatDoor.Q
open Go.RowKit PX SU Go.Proofs.YtgijjkdcidhmdaaGreatDoorW.PrintWords
theorem same_loop (a b : List ByteArray) (hl : a.length < 9000000000000) (he : a.length = b.length) : ∀ (d i : Nat), a.length - i = d → i ≤ a.length →
    ∃ K, ∀ k, K ≤ k → tributarykit_SameTexts.l0 k a b (i : Int) = some (decide (a.drop i = b.drop i)) := by
  intro d
  induction d with
  | zero =>
    intro i hd h1
    refine ⟨1, fun k hk => ?_⟩
    obtain ⟨k, rfl⟩ : ∃ m, k = m + 1 := ⟨k - 1, by omega⟩
    simp only [tributarykit_SameTexts.l0]
    rw [if_neg (by omega), show a.drop i = [] from List.drop_of_length_le (by omega), show b.drop i = [] from List.drop_of_length_le (by omega)]
    simp
  | succ d ih =>
    intro i hd h1
    have hi : i < a.length := by omega
    have hj : i < b.length := by omega
    have hw : wrap64 ((i : Int) + 1) = ((i + 1 : Nat) : Int) := by rw [wrap_in (by omega) (by omega)]; omega
    obtain ⟨K, hK⟩ := ih (i + 1) (by omega) (by omega)
    refine ⟨K + 1, fun k hk => ?_⟩
    obtain ⟨k, rfl⟩ : ∃ m, k = m + 1 := ⟨k - 1, by omega⟩
    have hK := hK k (by omega)
    simp only [tributarykit_SameTexts.l0]
    rw [if_pos (by omega), if_pos (by omega), if_pos (by omega), rd_at a i hi, rd_at b i hj, toList_D, toList_D, hw, List.drop_eq_getElem_cons hi, List.drop_eq_getElem_cons hj]
    by_cases hd : D a[i] = D b[i]
    · rw [if_pos hd, hK]
      have e : a[i] = b[i] := ba_ext hd
      congr 1
      rw [Bool.eq_iff_iff, decide_eq_true_eq, decide_eq_true_eq, List.cons.injEq]
      exact ⟨fun h => ⟨e, h⟩, fun h => h.2⟩
    · rw [if_neg hd]
      congr 1
      rw [eq_comm, decide_eq_false_iff_not, List.cons.injEq]
      exact fun h => hd (by rw [h.1])
theorem same_eq (a b : List ByteArray) (hl : a.length < 9000000000000) : Ev (fun k => tributarykit_SameTexts.f k a b) (decide (a = b)) := by
  by_cases he : a.length = b.length
  · obtain ⟨K, hK⟩ := same_loop a b hl he (a.length - 0) 0 rfl (Nat.zero_le _)
    refine ⟨K, fun k hk => ?_⟩
    have := hK k hk
    show tributarykit_SameTexts.f k a b = _
    unfold tributarykit_SameTexts.f
    rw [if_pos (by omega)]
    simpa using this
  · refine ⟨0, fun k hk => ?_⟩
    show tributarykit_SameTexts.f k a b = _
    unfold tributarykit_SameTexts.f
    rw [if_neg (by omega)]
    have : ¬ a = b := fun e => he (by rw [e])
    simp [this]
end Go.Proofs.YtgijjkdcidhmdaaGreatDoor.Q
namespace Go.Proofs.YtgijjkdcidhmdaaGreatDoor
open Go.RowKit Go.ChangeShapes Go.WideShapes Go.ChangeAt Go.Proofs.YtgijjkdcidhmdaaGreatDoorW.PrintWords

/-- An argument that is a slice of texts, as a row hands it over. -/
structure StrsArg (w : World) (a : Option Addr) (c : Nat) (l : List ByteArray) : Prop where
  reads : Kd.C Kd.string w a l.length l
  cap : l.length ≤ c
  len : l.length ≤ 8796093022000

theorem strs_arg {w : World} {x : Addr} {len cap : Nat} {ss : List ByteArray} (hl : len ≤ cap) (hm : cap ≤ maxLen) (hz : ss.length = cap) (hc : ∀ i, i < ss.length → w.cell? (x.add i) = some (.string (ss.getD i ByteArray.empty))) (hr : len ≤ 8796093022000) :
    StrsArg w (some x) cap (ss.take len) := by
  have e : (ss.take len).length = len := by rw [List.length_take]; omega
  refine ⟨Kd.C_of_reads (d := ByteArray.empty) ⟨rfl, by unfold maxLen at hm; omega, fun hp => ⟨x, rfl, fun j hj => ?_⟩⟩, by omega, by omega⟩
  have := hc j (by omega)
  rw [this]
  congr 2
  rw [List.getD_eq_getElem?_getD, List.getD_eq_getElem?_getD, List.getElem?_take, if_pos (by omega)]

theorem strs_in {H : Type} {enc : TypeId × Value → H} {P : Program} {W : World} {t e : TypeId} {a : Option Addr} {len cap : Nat} {d : DataW H} {ps : List MemPlace} {ts : List TypeId} {ds : List (DataW H)} {j : Nat}
    (hsz : (DataW.weightsEach P ts ds).all (· ≤ reachBytes) = true) (ht : ts[j]? = some t) (hd : ds[j]? = some d) (hu : P.underlying t = some (.slice e)) (he : P.underlying e = some .string) (hc : P.cellsOf e = 1) (hB : P.bytesOf e = 16)
    (h : DataW.Trod enc P W 0 (fun _ => true) true t (.slice a len cap) d ps) : ∃ z : List ByteArray, len = z.length ∧ StrsArg W a cap z := by
  obtain ⟨fuel, hf⟩ := h
  rcases open_strings hu he hc hf with ⟨hcs, _⟩ | ⟨x, l, c, zs, hcs, _, hl, hm, hz, hx, hcell, _⟩
  · simp [Value.cells] at hcs
    obtain ⟨rfl, rfl, rfl⟩ := hcs
    exact ⟨[], rfl, ⟨Kd.C_of_reads (d := ByteArray.empty) ⟨rfl, by simp, fun hp => absurd hp (by simp)⟩, by simp, by simp⟩⟩
  · simp [Value.cells] at hcs
    obtain ⟨rfl, rfl, rfl⟩ := hcs
    obtain ⟨hx, _⟩ := Prod.mk.inj hx
    subst hx
    have z : _ ≤ 140737488351232 := sized_slice hsz ht hd hu
    rw [hB] at z
    have hz' : zs.length = cap := by simpa using hz
    have h1 : (strs (H := H) (zs.take len)).length + (strs (H := H) (zs.drop len)).length = zs.length := by
      simp [strs]
      omega
    rw [h1] at z
    refine ⟨zs.take len, by rw [List.length_take]; omega, strs_arg hl hm hz' hcell (by omega)⟩
end Go.Proofs.YtgijjkdcidhmdaaGreatDoor
