/- PathSet: the plain law, and the law's walk. -/
import Derived.Test.YtgijjkdcidhmdaaDoorUPathEq
import Derived.Test.YtgijjkdcidhmdaaDoorQ5
import Derived.Test.YtgijjkdcidhmdaaDoorUStrs
set_option linter.unusedVariables false
namespace Go.Proofs.YtgijjkdcidhmdaaDoor.Q
open Go.RowKit PX SU Go.Proofs.YtgijjkdcidhmdaaDoorW.PrintWords

noncomputable local instance (s : ByteArray) (l : List ByteArray) : Decidable (s ∈ l) := Classical.propDecidable _

theorem sort_eq {l : List ByteArray} (h : ∀ x ∈ l, x.size < 4294967281) (hl : l.length ≤ 8796093022000) : path_Sort.f l = some ((sortU ltT (l.map D)).map mkB) := by
  unfold path_Sort.f
  rw [if_pos ⟨List.all_eq_true.2 fun x hx => decide_eq_true (h x hx), hl⟩]

theorem map_D_mkB (l : List Bs) : (l.map mkB).map D = l := by
  rw [List.map_map]
  have : (D ∘ mkB) = id := rfl
  rw [this, List.map_id]

/-- What is sorted: its texts are those that were there. -/
theorem sorted_mem {l : List ByteArray} {x : ByteArray} : x ∈ (sortU ltT (l.map D)).map mkB ↔ x ∈ l := by
  rw [List.mem_map]
  constructor
  · rintro ⟨y, hy, rfl⟩
    rw [mem_sortU, List.mem_map] at hy
    obtain ⟨z, hz, rfl⟩ := hy
    exact hz
  · intro hx
    exact ⟨D x, by rw [mem_sortU]; exact List.mem_map.2 ⟨x, hx, rfl⟩, rfl⟩

theorem has_loop (l : List ByteArray) (s : ByteArray) (hl : l.length < 9000000000000) : ∀ (d i : Nat), l.length - i = d → i ≤ l.length → ∃ K, ∀ k, K ≤ k → tributarylaw03_has.l0 k l s (i : Int) = some (decide (s ∈ l.drop i)) := by
  intro d
  induction d with
  | zero =>
    intro i hd h1
    refine ⟨1, fun k hk => ?_⟩
    obtain ⟨k, rfl⟩ : ∃ m, k = m + 1 := ⟨k - 1, by omega⟩
    simp only [tributarylaw03_has.l0]
    rw [if_neg (by omega), show l.drop i = [] from List.drop_of_length_le (by omega)]
    simp
  | succ d ih =>
    intro i hd h1
    have hi : i < l.length := by omega
    have hw : wrap64 ((i : Int) + 1) = ((i + 1 : Nat) : Int) := by rw [wrap_in (by omega) (by omega)]; omega
    obtain ⟨K, hK⟩ := ih (i + 1) (by omega) (by omega)
    refine ⟨K + 1, fun k hk => ?_⟩
    obtain ⟨k, rfl⟩ : ∃ m, k = m + 1 := ⟨k - 1, by omega⟩
    have hK := hK k (by omega)
    simp only [tributarylaw03_has.l0]
    rw [if_pos (by omega), if_pos (by omega), rd_at l i hi, toList_D, toList_D, hw]
    have hd' := List.drop_eq_getElem_cons hi
    by_cases he : D l[i] = D s
    · rw [if_pos he]
      have : l[i] = s := ba_ext he
      rw [decide_eq_true (by rw [hd', this]; exact List.mem_cons_self)]
    · rw [if_neg he, hK]
      have : ¬ s = l[i] := fun e => he (by rw [e])
      congr 1
      exact decide_eq_decide.2 (by rw [hd', List.mem_cons]; exact ⟨fun h => .inr h, fun h => h.elim (fun h => absurd h this) id⟩)
theorem has_eq (l : List ByteArray) (s : ByteArray) (hl : l.length < 9000000000000) : Ev (fun k => tributarylaw03_has.f k l s) (decide (s ∈ l)) := by
  obtain ⟨K, hK⟩ := has_loop l s hl (l.length - 0) 0 rfl (Nat.zero_le _)
  exact ⟨K, fun k hk => by have := hK k hk; show tributarylaw03_has.f k l s = _; unfold tributarylaw03_has.f; simpa using this⟩

theorem set_loop1 (l z : List ByteArray) (hl : l.length < 9000000000000) (hz : z.length < 9000000000000) (hm : ∀ x, x ∈ l → x ∈ z) (hsz : path_Sort.f z = some z) : ∀ (d i : Nat), l.length - i = d → i ≤ l.length →
    ∃ K, ∀ k, K ≤ k → tributarylaw03_PathSet.l1 k l true z (i : Int) = some true := by
  intro d
  induction d with
  | zero =>
    intro i hd h1
    obtain ⟨K, hK⟩ := same_eq z z hz
    refine ⟨K + 1, fun k hk => ?_⟩
    obtain ⟨k, rfl⟩ : ∃ m, k = m + 1 := ⟨k - 1, by omega⟩
    have hK := hK k (by omega)
    simp only [] at hK
    simp only [tributarylaw03_PathSet.l1]
    rw [if_neg (by omega), if_pos trivial, hsz]
    simp only [Option.bind_some]
    rw [hK]; simp
  | succ d ih =>
    intro i hd h1
    have hi : i < l.length := by omega
    have hw : wrap64 ((i : Int) + 1) = ((i + 1 : Nat) : Int) := by rw [wrap_in (by omega) (by omega)]; omega
    obtain ⟨K1, h1⟩ := ih (i + 1) (by omega) (by omega)
    obtain ⟨K2, h2⟩ := has_eq z l[i] hz
    refine ⟨K1 + K2 + 1, fun k hk => ?_⟩
    obtain ⟨k, rfl⟩ : ∃ m, k = m + 1 := ⟨k - 1, by omega⟩
    have h1 := h1 k (by omega)
    have h2 := h2 k (by omega)
    simp only [] at h2
    simp only [tributarylaw03_PathSet.l1]
    rw [if_pos (by omega), if_pos (by omega), rd_at l i hi, h2, decide_eq_true (hm _ (List.getElem_mem _)), hw, h1]
    rfl

theorem set_loop0 (l z : List ByteArray) (hl : l.length < 9000000000000) (hz : z.length < 9000000000000) (hm : ∀ x, x ∈ l → x ∈ z) (hsz : path_Sort.f z = some z) (hb : ∀ x ∈ z, x.size < 4294967281) (hml : ∀ x ∈ z, x ∈ l)
    (hss : SS ltT (z.map D)) : ∀ (d i : Nat), z.length - i = d → i ≤ z.length →
    ∃ K, ∀ k, K ≤ k → tributarylaw03_PathSet.l0 k l true z (i : Int) = some true := by
  intro d
  induction d with
  | zero =>
    intro i hd h1
    obtain ⟨K, hK⟩ := set_loop1 l z hl hz hm hsz (l.length - 0) 0 rfl (Nat.zero_le _)
    refine ⟨K + 1, fun k hk => ?_⟩
    obtain ⟨k, rfl⟩ : ∃ m, k = m + 1 := ⟨k - 1, by omega⟩
    have hK := hK k (by omega)
    simp only [tributarylaw03_PathSet.l0]
    rw [if_neg (by omega)]
    exact hK
  | succ d ih =>
    intro i hd h1
    have hi : i < z.length := by omega
    have hw : wrap64 ((i : Int) + 1) = ((i + 1 : Nat) : Int) := by rw [wrap_in (by omega) (by omega)]; omega
    obtain ⟨K1, h1⟩ := ih (i + 1) (by omega) (by omega)
    obtain ⟨K2, h2⟩ := has_eq l z[i] hl
    refine ⟨K1 + K2 + 1, fun k hk => ?_⟩
    obtain ⟨k, rfl⟩ : ∃ m, k = m + 1 := ⟨k - 1, by omega⟩
    have h1 := h1 k (by omega)
    have h2 := h2 k (by omega)
    simp only [] at h2
    simp only [tributarylaw03_PathSet.l0]
    rw [if_pos (by omega)]
    by_cases h0 : i = 0
    · rw [if_neg (by omega), if_pos (by omega), rd_at z i hi, h2, decide_eq_true (hml _ (List.getElem_mem _)), hw, h1]; rfl
    · have hw2 : wrap64 ((i : Int) - 1) = ((i - 1 : Nat) : Int) := by rw [wrap_in (by omega) (by omega)]; omega
      have hlt : ltT (D z[i - 1]) (D z[i]) = true := by
        have := List.pairwise_iff_getElem.1 hss (i - 1) i (by simp; omega) (by simpa using hi) (by omega)
        simpa using this
      rw [if_pos (by omega), hw2, if_pos (by omega), if_pos (by omega), if_pos (by omega), rd_at z (i - 1) (by omega), rd_at z i hi, less_eq (hb _ (List.getElem_mem _)) (hb _ (List.getElem_mem _)), hlt, h2, decide_eq_true (hml _ (List.getElem_mem _)), hw, h1]; rfl

theorem pathSet_true (l : List ByteArray) (hlen : l.length ≤ 8796093022000) : ∃ k, tributarylaw03_PathSet.f k l = some true := by
  obtain ⟨K0, h0⟩ := long_eq l (by omega)
  obtain ⟨K1, h1⟩ := awake_eq
  cases hl : longL l with
  | true =>
    refine ⟨K0 + K1, ?_⟩
    have h0 := h0 (K0 + K1) (by omega)
    have h1 := h1 (K0 + K1) (by omega)
    rw [hl] at h0
    unfold tributarylaw03_PathSet.f
    simp only [h0, h1, Option.bind_some, if_true]
  | false =>
    obtain ⟨hs, hn⟩ := long_no hl
    have hb : ∀ x ∈ l, x.size < 4294967281 := fun x hx => by have := hs x hx; omega
    obtain ⟨z, hz⟩ : ∃ z, (sortU ltT (l.map D)).map mkB = z := ⟨_, rfl⟩
    have hsort := sort_eq hb hlen
    rw [hz] at hsort
    have hmem : ∀ x, x ∈ z ↔ x ∈ l := fun x => by rw [← hz]; exact sorted_mem
    have hzD : z.map D = sortU ltT (l.map D) := by rw [← hz]; exact map_D_mkB _
    have hss : SS ltT (z.map D) := by rw [hzD]; exact ss_sortU ltT_tot _
    have hzl : z.length ≤ 30 := by
      have e : z.length = (sortU ltT (l.map D)).length := by rw [← hz, List.length_map]
      rw [e]
      have := sortU_len (lt := ltT) (l.map D)
      rw [List.length_map] at this; omega
    have hzb : ∀ x ∈ z, x.size < 4294967281 := fun x hx => hb x ((hmem x).1 hx)
    have hsz : path_Sort.f z = some z := by
      rw [sort_eq hzb (by omega), sortU_of_ss ltT_tot hss, List.map_map]
      have : (mkB ∘ D) = id := rfl
      rw [this, List.map_id]
    obtain ⟨K2, h2⟩ := set_loop0 l z (by omega) (by omega) (fun x hx => (hmem x).2 hx) hsz hzb (fun x hx => (hmem x).1 hx) hss (z.length - 0) 0 rfl (Nat.zero_le _)
    refine ⟨K0 + K1 + K2, ?_⟩
    have h0 := h0 (K0 + K1 + K2) (by omega)
    have h1 := h1 (K0 + K1 + K2) (by omega)
    have h2 := h2 (K0 + K1 + K2) (by omega)
    rw [hl] at h0
    simp only [] at h0 h1
    unfold tributarylaw03_PathSet.f
    simp only [h0, h1, hsort, Option.bind_some, Bool.false_eq_true, if_false]
    exact h2

theorem walk_PathSet (a : Option Addr) (c : Nat) (l : List ByteArray) (w : World) (h : Go.Proofs.YtgijjkdcidhmdaaDoor.StrsArg w a c l) :
    Calls Tryd.prog 7 #[.slice a l.length c] w fun e w' => e = .returned (.bool true) ∧ Below w.heap.size w w' := by
  obtain ⟨k, hk⟩ := pathSet_true l h.len
  exact tributarylaw03_PathSet.calls k a c l true w h.reads h.cap hk
end Go.Proofs.YtgijjkdcidhmdaaDoor.Q
