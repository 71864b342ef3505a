/- tributaryref03.Sort: each text is laid into its place; what comes rises strictly and has the same members: it is what path.Sort answers. -/
import Derived.Test.YtgijjkdcidhmdaaDoorUPathEq
import Derived.Test.YtgijjkdcidhmdaaDoorRefSortW
set_option linter.unusedVariables false
namespace Go.Proofs.YtgijjkdcidhmdaaDoor.Q
open Go.RowKit PX SU Go.Proofs.YtgijjkdcidhmdaaDoorW.PrintWords Go.Proofs.YtgijjkdcidhmdaaDoorW.PrintLast Go.Proofs.YtgijjkdcidhmdaaDoorW.PrintMore

def ltB (a b : ByteArray) : Bool := ltT (D a) (D b)
theorem ltB_tot : Tot ltB where
  irr x := ltT_tot.irr _
  tr x y z := ltT_tot.tr _ _ _
  tot x y h1 h2 := ba_ext (ltT_tot.tot _ _ h1 h2)

/-- A text is laid into its place. -/
theorem ss_place {o : List ByteArray} {x : ByteArray} {k : Nat} (hs : SS ltB o) (hk : k ≤ o.length) (hb : ∀ j (h : j < o.length), j < k → ltB o[j] x = true) (hn : ∀ h : k < o.length, ltB o[k] x = false ∧ o[k] ≠ x) :
    SS ltB (o.take k ++ [x] ++ o.drop k) := by
  rw [List.append_assoc, List.singleton_append]
  refine List.pairwise_append.2 ⟨hs.sublist (List.take_sublist _ _), List.pairwise_cons.2 ⟨fun z hz => ?_, hs.sublist (List.drop_sublist _ _)⟩, fun y hy z hz => ?_⟩
  · obtain ⟨j, hj, rfl⟩ := List.getElem_of_mem hz
    rw [List.length_drop] at hj
    rw [List.getElem_drop]
    obtain ⟨h1, h2⟩ := hn (by omega)
    have h3 : ltB x o[k] = true := by
      cases h : ltB x o[k] with
      | true => rfl
      | false => exact absurd (ltB_tot.tot _ _ h1 h) h2
    by_cases h0 : j = 0
    · subst h0; exact h3
    · exact ltB_tot.tr _ _ _ h3 (List.pairwise_iff_getElem.1 hs k (k + j) (by omega) (by omega) (by omega))
  · obtain ⟨i, hi, rfl⟩ := List.getElem_of_mem hy
    rw [List.length_take] at hi
    rw [List.getElem_take]
    have h1 := hb i (by omega) (by omega)
    rcases List.mem_cons.1 hz with rfl | hz
    · exact h1
    · obtain ⟨j, hj, rfl⟩ := List.getElem_of_mem hz
      rw [List.length_drop] at hj
      rw [List.getElem_drop]
      exact List.pairwise_iff_getElem.1 hs i (k + j) (by omega) (by omega) (by omega)

theorem mem_place {o : List ByteArray} {x y : ByteArray} {k : Nat} : y ∈ o.take k ++ [x] ++ o.drop k ↔ y ∈ o ∨ y = x := by
  have e := List.take_append_drop k o
  constructor
  · intro h
    simp only [List.mem_append, List.mem_singleton] at h
    rcases h with (h | h) | h
    · exact .inl (List.mem_of_mem_take h)
    · exact .inr h
    · exact .inl (List.mem_of_mem_drop h)
  · rintro (h | rfl)
    · rw [← e] at h
      simp only [List.mem_append, List.mem_singleton] at h ⊢
      rcases h with h | h
      · exact .inl (.inl h)
      · exact .inr h
    · simp

theorem mem_take_succ {l : List ByteArray} {i : Nat} (hi : i < l.length) (y : ByteArray) : y ∈ l.take (i + 1) ↔ y ∈ l.take i ∨ y = l[i] := by
  have e : l.take (i + 1) = l.take i ++ [l[i]] := by rw [List.take_append_getElem]
  rw [e, List.mem_append, List.mem_singleton]

theorem rsort_j2 (l : List ByteArray) (hl : l.length < 8796093022000) (i : Nat) (hi : i < l.length) (o : List ByteArray) (ho : SS ltB o) (hm : ∀ x, x ∈ o ↔ x ∈ l.take i) (hol : o.length ≤ i) (k : Nat) (hk : k ≤ o.length)
    (hb : ∀ j (h : j < o.length), j < k → ltB o[j] l[i] = true) (hn : ∀ h : k < o.length, ltB o[k] l[i] = false) :
    ∃ o', SS ltB o' ∧ (∀ x, x ∈ o' ↔ x ∈ l.take (i + 1)) ∧ o'.length ≤ i + 1 ∧ ∀ r, (∃ K, ∀ n, K ≤ n → tributaryref03_Sort.l0 n l o' ((i + 1 : Nat) : Int) = some r) → ∃ K, ∀ n, K ≤ n → tributaryref03_Sort.j2 n l o (i : Int) (k : Int) = some r := by
  have hw : wrap64 ((i : Int) + 1) = ((i + 1 : Nat) : Int) := by rw [wrap_in (by omega) (by omega)]; omega
  have place : (∀ h : k < o.length, ltB o[k] l[i] = false ∧ o[k] ≠ l[i]) → SS ltB (o.take k ++ [l[i]] ++ o.drop k) ∧ (∀ x, x ∈ o.take k ++ [l[i]] ++ o.drop k ↔ x ∈ l.take (i + 1)) ∧ (o.take k ++ [l[i]] ++ o.drop k).length ≤ i + 1 := by
    intro hn
    refine ⟨ss_place ho hk hb hn, fun x => ?_, ?_⟩
    · rw [mem_place, mem_take_succ hi, hm]
    · simp only [List.length_append, List.length_take, List.length_drop, List.length_singleton]; omega
  by_cases h0 : k = o.length
  · obtain ⟨p1, p2, p3⟩ := place (fun h => absurd h (by omega))
    refine ⟨_, p1, p2, p3, fun r ⟨K, hK⟩ => ⟨K + 1, fun n hn => ?_⟩⟩
    obtain ⟨n, rfl⟩ : ∃ m, n = m + 1 := ⟨n - 1, by omega⟩
    have hK := hK n (by omega)
    simp only [tributaryref03_Sort.j2]
    rw [if_pos (by omega)]
    simp only [Option.bind_some, List.nil_append, List.length_nil, List.length_take, List.length_append, List.length_singleton, Int.toNat_natCast, rd_at l i hi, hw]
    rw [if_pos (by omega), if_pos (by omega), if_pos (by omega), if_pos (by omega), if_pos (by omega), if_pos (by omega), if_pos (by simp only [List.length_drop]; omega)]
    exact hK
  · have hk' : k < o.length := by omega
    have hlt := hn hk'
    by_cases hE : o[k] = l[i]
    · refine ⟨o, ho, fun x => ?_, by omega, fun r ⟨K, hK⟩ => ⟨K + 1, fun n hn => ?_⟩⟩
      · rw [mem_take_succ hi, hm]
        constructor
        · exact .inl
        · rintro (h | rfl)
          · exact h
          · rw [← hm, ← hE]; exact List.getElem_mem _
      · obtain ⟨n, rfl⟩ : ∃ m, n = m + 1 := ⟨n - 1, by omega⟩
        have hK := hK n (by omega)
        simp only [tributaryref03_Sort.j2]
        rw [if_neg (by omega), if_pos (by omega), if_pos (by omega), if_pos (by omega), if_pos (by omega), rd_at o k hk', rd_at l i hi, if_pos (by rw [hE]), hw]
        exact hK
    · obtain ⟨p1, p2, p3⟩ := place (fun h => ⟨hlt, hE⟩)
      refine ⟨_, p1, p2, p3, fun r ⟨K, hK⟩ => ⟨K + 1, fun n hn => ?_⟩⟩
      obtain ⟨n, rfl⟩ : ∃ m, n = m + 1 := ⟨n - 1, by omega⟩
      have hK := hK n (by omega)
      have hne : ¬ (o[k].toList = l[i].toList) := by rw [toList_D, toList_D]; exact fun h => hE (ba_ext h)
      simp only [tributaryref03_Sort.j2]
      rw [if_neg (by omega), if_pos (by omega), if_pos (by omega), if_pos (by omega), if_pos (by omega), rd_at o k hk', rd_at l i hi, if_neg hne]
      simp only [Option.bind_some, List.nil_append, List.length_nil, List.length_take, List.length_append, List.length_singleton, Int.toNat_natCast, hw]
      rw [if_pos (by omega), if_pos (by omega), if_pos (by omega), if_pos (by simp only [List.length_drop]; omega)]
      exact hK

theorem rsort_in (l : List ByteArray) (hs : ∀ x ∈ l, x.size < 4294967281) (hl : l.length < 8796093022000) (i : Nat) (hi : i < l.length) (o : List ByteArray) (ho : SS ltB o) (hm : ∀ x, x ∈ o ↔ x ∈ l.take i) (hol : o.length ≤ i) :
    ∀ (d k : Nat), o.length - k = d → k ≤ o.length → (∀ j (h : j < o.length), j < k → ltB o[j] l[i] = true) →
    ∃ o', SS ltB o' ∧ (∀ x, x ∈ o' ↔ x ∈ l.take (i + 1)) ∧ o'.length ≤ i + 1 ∧ ∀ r, (∃ K, ∀ n, K ≤ n → tributaryref03_Sort.l0 n l o' ((i + 1 : Nat) : Int) = some r) → ∃ K, ∀ n, K ≤ n → tributaryref03_Sort.l1 n l o (i : Int) (k : Int) = some r := by
  have hxs : l[i].size < 4294967281 := hs _ (List.getElem_mem _)
  have hos : ∀ k (h : k < o.length), o[k].size < 4294967281 := fun k h => hs _ (List.mem_of_mem_take ((hm _).1 (List.getElem_mem _)))
  intro d
  induction d with
  | zero =>
    intro k hd hk hb
    obtain ⟨o', q1, q2, q3, q4⟩ := rsort_j2 l hl i hi o ho hm hol k hk hb (fun h => absurd h (by omega))
    refine ⟨o', q1, q2, q3, fun r hr => ?_⟩
    obtain ⟨K, hK⟩ := q4 r hr
    refine ⟨K + 1, fun n hn => ?_⟩
    obtain ⟨n, rfl⟩ : ∃ m, n = m + 1 := ⟨n - 1, by omega⟩
    simp only [tributaryref03_Sort.l1]
    rw [if_neg (by omega)]
    exact hK n (by omega)
  | succ d ih =>
    intro k hd hk hb
    have hk' : k < o.length := by omega
    have hw2 : wrap64 ((k : Int) + 1) = ((k + 1 : Nat) : Int) := by rw [wrap_in (by omega) (by omega)]; omega
    obtain ⟨KL, hKL⟩ := rless_eq (hos k hk') hxs
    cases hlt : ltT (D o[k]) (D l[i]) with
    | true =>
      obtain ⟨o', q1, q2, q3, q4⟩ := ih (k + 1) (by omega) (by omega) (fun j h hj => by
        by_cases hjk : j = k
        · subst hjk; exact hlt
        · exact hb j h (by omega))
      refine ⟨o', q1, q2, q3, fun r hr => ?_⟩
      obtain ⟨K, hK⟩ := q4 r hr
      refine ⟨K + KL + 1, fun n hn => ?_⟩
      obtain ⟨n, rfl⟩ : ∃ m, n = m + 1 := ⟨n - 1, by omega⟩
      have hK := hK n (by omega)
      have hKL := hKL n (by omega)
      simp only [] at hKL
      simp only [tributaryref03_Sort.l1]
      rw [if_pos (by omega), if_pos (by omega), if_pos (by omega), if_pos (by omega), rd_at o k hk', rd_at l i hi, hKL]
      simp only [Option.bind_some, hlt, if_true, hw2]
      exact hK
    | false =>
      obtain ⟨o', q1, q2, q3, q4⟩ := rsort_j2 l hl i hi o ho hm hol k hk hb (fun h => hlt)
      refine ⟨o', q1, q2, q3, fun r hr => ?_⟩
      obtain ⟨K, hK⟩ := q4 r hr
      refine ⟨K + KL + 1, fun n hn => ?_⟩
      obtain ⟨n, rfl⟩ : ∃ m, n = m + 1 := ⟨n - 1, by omega⟩
      have hK := hK n (by omega)
      have hKL := hKL n (by omega)
      simp only [] at hKL
      simp only [tributaryref03_Sort.l1]
      rw [if_pos (by omega), if_pos (by omega), if_pos (by omega), if_pos (by omega), rd_at o k hk', rd_at l i hi, hKL]
      simp only [Option.bind_some, hlt, Bool.false_eq_true, if_false]
      exact hK

theorem rsort_out (l : List ByteArray) (hs : ∀ x ∈ l, x.size < 4294967281) (hl : l.length < 8796093022000) : ∀ (d i : Nat), l.length - i = d → i ≤ l.length → ∀ o, SS ltB o → (∀ x, x ∈ o ↔ x ∈ l.take i) → o.length ≤ i →
    ∃ r, SS ltB r ∧ (∀ x, x ∈ r ↔ x ∈ l) ∧ ∃ K, ∀ n, K ≤ n → tributaryref03_Sort.l0 n l o (i : Int) = some r := by
  intro d
  induction d with
  | zero =>
    intro i hd hi o ho hm hol
    refine ⟨o, ho, fun x => by rw [hm, List.take_of_length_le (by omega)], 1, fun n hn => ?_⟩
    obtain ⟨n, rfl⟩ : ∃ m, n = m + 1 := ⟨n - 1, by omega⟩
    simp only [tributaryref03_Sort.l0]
    rw [if_neg (by omega)]
  | succ d ih =>
    intro i hd hi o ho hm hol
    obtain ⟨o', q1, q2, q3, q4⟩ := rsort_in l hs hl i (by omega) o ho hm hol (o.length - 0) 0 rfl (Nat.zero_le _) (fun j h hj => absurd hj (by omega))
    obtain ⟨r, r1, r2, r3⟩ := ih (i + 1) (by omega) (by omega) o' q1 q2 q3
    obtain ⟨K, hK⟩ := q4 r r3
    refine ⟨r, r1, r2, K + 1, fun n hn => ?_⟩
    obtain ⟨n, rfl⟩ : ∃ m, n = m + 1 := ⟨n - 1, by omega⟩
    simp only [tributaryref03_Sort.l0]
    rw [if_pos (by omega)]
    exact hK n (by omega)

theorem rsort_eq (l : List ByteArray) (hs : ∀ x ∈ l, x.size < 4294967281) (hl : l.length < 8796093022000) : Ev (fun k => tributaryref03_Sort.f k l) ((sortU ltT (l.map D)).map mkB) := by
  obtain ⟨r, r1, r2, K, hK⟩ := rsort_out l hs hl (l.length - 0) 0 rfl (Nat.zero_le _) [] List.Pairwise.nil (fun x => by simp) (Nat.le_refl _)
  have e : r.map D = sortU ltT (l.map D) := by
    refine ss_unique ltT_tot _ _ (List.pairwise_map.2 r1) (ss_sortU ltT_tot _) (fun x => ?_)
    rw [mem_sortU, List.mem_map, List.mem_map]
    constructor
    · rintro ⟨y, hy, rfl⟩; exact ⟨y, (r2 y).1 hy, rfl⟩
    · rintro ⟨y, hy, rfl⟩; exact ⟨y, (r2 y).2 hy, rfl⟩
  have e2 : r = (sortU ltT (l.map D)).map mkB := by
    rw [← e, List.map_map]
    have : (mkB ∘ D) = id := rfl
    rw [this, List.map_id]
  refine ⟨K, fun n hn => ?_⟩
  have := hK n hn
  show tributaryref03_Sort.f n l = _
  unfold tributaryref03_Sort.f
  rw [← e2]
  exact this
end Go.Proofs.YtgijjkdcidhmdaaDoor.Q
