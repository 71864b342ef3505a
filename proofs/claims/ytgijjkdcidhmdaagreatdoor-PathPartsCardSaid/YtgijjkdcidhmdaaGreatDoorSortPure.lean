/- Plain facts on sorting: what is sorted by a strict total order and compacted is the one strictly rising list with the same members. No program in sight. -/
import Derived.Lib.SlicesCompact
set_option linter.unusedVariables false
namespace Go.Proofs.YtgijjkdcidhmdaaGreatDoor.SU
open Go

/-- A strict total order, as a test. -/
structure Tot {α : Type} (lt : α → α → Bool) : Prop where
  irr : ∀ x, lt x x = false
  tr : ∀ x y z, lt x y = true → lt y z = true → lt x z = true
  tot : ∀ x y, lt x y = false → lt y x = false → x = y

variable {α : Type} {lt : α → α → Bool}

def insU [DecidableEq α] (lt : α → α → Bool) (x : α) : List α → List α
  | [] => [x]
  | y :: t => if lt x y then x :: y :: t else if x = y then y :: t else y :: insU lt x t
def sortU [DecidableEq α] (lt : α → α → Bool) : List α → List α
  | [] => []
  | x :: l => insU lt x (sortU lt l)

def SS (lt : α → α → Bool) (l : List α) : Prop := l.Pairwise (fun a b => lt a b = true)

theorem Tot.asymm (h : Tot lt) {x y : α} (hx : lt x y = true) : lt y x = false := by
  cases hy : lt y x with
  | false => rfl
  | true => have := h.tr _ _ _ hx hy; rw [h.irr] at this; cases this

theorem mem_insU [DecidableEq α] (x z : α) : ∀ l : List α, z ∈ insU lt x l ↔ z = x ∨ z ∈ l
  | [] => by simp [insU]
  | y :: t => by
    simp only [insU]
    split
    · simp
    · split
      · rename_i h; subst h; simp
      · simp only [List.mem_cons, mem_insU x z t]
        constructor
        · rintro (h | h | h) <;> simp [h]
        · rintro (h | h | h) <;> simp [h]
theorem mem_sortU [DecidableEq α] (z : α) : ∀ l : List α, z ∈ sortU lt l ↔ z ∈ l
  | [] => by simp [sortU]
  | x :: l => by simp [sortU, mem_insU, mem_sortU z l]

theorem ss_insU [DecidableEq α] (h : Tot lt) (x : α) : ∀ l : List α, SS lt l → SS lt (insU lt x l)
  | [], _ => by simp [insU, SS]
  | y :: t, hs => by
    have ⟨h1, h2⟩ := List.pairwise_cons.1 hs
    simp only [insU]
    split
    · rename_i hxy
      refine List.pairwise_cons.2 ⟨?_, hs⟩
      intro z hz
      rcases List.mem_cons.1 hz with rfl | hz
      · exact hxy
      · exact h.tr _ _ _ hxy (h1 z hz)
    · split
      · exact hs
      · rename_i h3 h4
        refine List.pairwise_cons.2 ⟨?_, ss_insU h x t h2⟩
        intro z hz
        rcases (mem_insU _ _ _).1 hz with rfl | hz
        · cases hyx : lt y z with
          | true => rfl
          | false => exact absurd (h.tot _ _ (by simpa using h3) hyx) h4
        · exact h1 z hz
theorem ss_sortU [DecidableEq α] (h : Tot lt) : ∀ l : List α, SS lt (sortU lt l)
  | [] => List.Pairwise.nil
  | x :: l => ss_insU h x _ (ss_sortU h l)

theorem ss_unique (h : Tot lt) : ∀ (a b : List α), SS lt a → SS lt b → (∀ x, x ∈ a ↔ x ∈ b) → a = b
  | [], [], _, _, _ => rfl
  | [], y :: t, _, _, hm => absurd ((hm y).2 (by simp)) (by simp)
  | x :: s, [], _, _, hm => absurd ((hm x).1 (by simp)) (by simp)
  | x :: s, y :: t, ha, hb, hm => by
    have ⟨a1, a2⟩ := List.pairwise_cons.1 ha
    have ⟨b1, b2⟩ := List.pairwise_cons.1 hb
    have e : x = y := by
      rcases List.mem_cons.1 ((hm x).1 (by simp)) with e | hx
      · exact e
      · rcases List.mem_cons.1 ((hm y).2 (by simp)) with e | hy
        · exact e.symm
        · have := h.asymm (b1 x hx); rw [a1 y hy] at this; cases this
    subst e
    have : s = t := by
      refine ss_unique h s t a2 b2 fun z => ⟨fun hz => ?_, fun hz => ?_⟩
      · rcases List.mem_cons.1 ((hm z).1 (by simp [hz])) with e | hz'
        · have := a1 z hz; rw [e, h.irr] at this; cases this
        · exact hz'
      · rcases List.mem_cons.1 ((hm z).2 (by simp [hz])) with e | hz'
        · have := b1 z hz; rw [e, h.irr] at this; cases this
        · exact hz'
    rw [this]

theorem sortU_of_ss [DecidableEq α] (h : Tot lt) {l : List α} (hs : SS lt l) : sortU lt l = l :=
  ss_unique h _ _ (ss_sortU h l) hs (fun x => mem_sortU x l)

variable [Inhabited α] [DecidableEq α]
theorem compactUpTo_ss (h : Tot lt) (d : Array α) (hd : ∀ i j, i ≤ j → j < d.size → lt d[j]! d[i]! = false) : ∀ m, m ≤ d.size →
    SS lt (Lib.compactUpTo d m) ∧ (∀ x, x ∈ Lib.compactUpTo d m ↔ ∃ j, j < m ∧ d[j]! = x)
  | 0, _ => by simp [Lib.compactUpTo, SS]
  | m + 1, hm => by
    obtain ⟨h1, h2⟩ := compactUpTo_ss h d hd m (by omega)
    rw [Lib.compactUpTo_succ]
    by_cases hk : Lib.keeps d m = true
    · rw [if_pos hk]
      constructor
      · refine List.pairwise_append.2 ⟨h1, by simp, ?_⟩
        intro a ha b hb
        obtain rfl := List.mem_singleton.1 hb
        obtain ⟨j, hj, rfl⟩ := (h2 a).1 ha
        have hne : d[m]! ≠ d[m - 1]! := by
          have := of_decide_eq_true hk
          rcases this with h0 | h0
          · omega
          · exact h0
        have s1 : lt d[m - 1]! d[m]! = true := by
          cases hl : lt d[m - 1]! d[m]! with
          | true => rfl
          | false => exact absurd (h.tot _ _ (hd (m - 1) m (by omega) (by omega)) hl) hne
        by_cases hjm : j = m - 1
        · rw [hjm]; exact s1
        · cases hl : lt d[j]! d[m - 1]! with
          | true => exact h.tr _ _ _ hl s1
          | false => have := h.tot _ _ hl (hd j (m - 1) (by omega) (by omega)); rw [this]; exact s1
      · intro x
        rw [List.mem_append, h2]
        constructor
        · rintro (⟨j, hj, rfl⟩ | hx)
          · exact ⟨j, by omega, rfl⟩
          · exact ⟨m, by omega, (List.mem_singleton.1 hx).symm⟩
        · rintro ⟨j, hj, rfl⟩
          by_cases hjm : j = m
          · right; rw [hjm]; simp
          · left; exact ⟨j, by omega, rfl⟩
    · rw [if_neg hk, List.append_nil]
      refine ⟨h1, fun x => ?_⟩
      rw [h2]
      have he : m ≠ 0 ∧ d[m]! = d[m - 1]! := by
        have : Lib.keeps d m = false := by simpa using hk
        have := of_decide_eq_false this
        simpa using this
      constructor
      · rintro ⟨j, hj, rfl⟩; exact ⟨j, by omega, rfl⟩
      · rintro ⟨j, hj, rfl⟩
        by_cases hjm : j = m
        · exact ⟨m - 1, by omega, by rw [hjm, he.2]⟩
        · exact ⟨j, by omega, rfl⟩

/-- **Sorted and compacted: the one strictly rising list with the same members.** -/
theorem compact_sorted (h : Tot lt) (l : List α) : Lib.compact (l.mergeSort fun x y => !lt y x) = sortU lt l := by
  obtain ⟨z, hz⟩ : ∃ z, (l.mergeSort fun x y => !lt y x) = z := ⟨_, rfl⟩
  have hs : z.Pairwise (fun x y => (!lt y x) = true) := by
    rw [← hz]
    refine List.pairwise_mergeSort (le := fun x y => !lt y x) ?_ ?_ l
    · intro a b c h1 h2
      simp only [Bool.not_eq_true'] at h1 h2 ⊢
      cases hca : lt c a with
      | false => rfl
      | true =>
        cases hcb : lt b c with
        | true => have := h.tr _ _ _ hcb hca; rw [this] at h1; cases h1
        | false => have e := h.tot _ _ hcb h2; subst e; rw [hca] at h1; cases h1
    · intro a b
      cases hab : lt a b with
      | false => simp
      | true => simp [h.asymm hab]
  have hm : ∀ x, x ∈ z ↔ x ∈ l := by intro x; rw [← hz]; exact List.mem_mergeSort
  rw [hz]
  unfold Lib.compact
  obtain ⟨h1, h2⟩ := compactUpTo_ss h z.toArray (by
    intro i j hij hj
    have hj' : j < z.length := by simpa using hj
    rw [getElem!_pos _ _ (by simpa using hj'), getElem!_pos _ _ (by simpa using (by omega : i < z.length))]
    by_cases e : i = j
    · subst e; simp [h.irr]
    · have := List.pairwise_iff_getElem.1 hs i j (by omega) hj' (by omega)
      simpa using this) z.length (by simp)
  refine ss_unique h _ _ h1 (ss_sortU h l) fun x => ?_
  rw [h2, mem_sortU, ← hm]
  constructor
  · rintro ⟨j, hj, rfl⟩
    rw [getElem!_pos _ _ (by simpa using hj)]
    simp
  · intro hx
    obtain ⟨j, hj, rfl⟩ := List.mem_iff_getElem.1 hx
    exact ⟨j, hj, by rw [getElem!_pos _ _ (by simpa using hj)]; simp⟩
end Go.Proofs.YtgijjkdcidhmdaaGreatDoor.SU
