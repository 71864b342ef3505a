/- Plain facts: what lies under a text comes right behind it in the order. No program in sight. -/
import Derived.Test.YtgijjkdcidhmdaaGreatDoorPathPure
set_option linter.unusedVariables false
namespace Go.Proofs.YtgijjkdcidhmdaaGreatDoor.PX
open Go

theorem split_app (a r : Bs) : splitL (a ++ 47 :: r) = splitL a ++ splitL r := by
  induction a with
  | nil => simp [splitL]
  | cons c t ih =>
    simp only [List.cons_append, splitL]
    by_cases h : c = 47
    · rw [if_pos h, if_pos h, ih]; rfl
    · rw [if_neg h, if_neg h, ih]
      cases hs : splitL t with
      | nil => exact absurd hs (splitL_ne t)
      | cons x y => rfl

theorem join_app : ∀ (l m : List Bs), l ≠ [] → m ≠ [] → joinL (l ++ m) = joinL l ++ 47 :: joinL m := by
  intro l m hl hm
  induction l with
  | nil => exact absurd rfl hl
  | cons x r ih =>
    cases r with
    | nil => simp only [List.cons_append, List.nil_append]; rw [joinL_cons _ _ hm]; rfl
    | cons y s =>
      rw [List.cons_append, joinL_cons x (y :: s ++ m) (by simp), ih (by simp), joinL_cons x (y :: s) (by simp)]
      simp

theorem cmpLL_app_lt (a s : List Bs) (h : s ≠ []) : cmpLL a (a ++ s) < 0 := by
  induction a with
  | nil => cases s with
    | nil => exact absurd rfl h
    | cons x y => simp [cmpLL]
  | cons x r ih => simp only [List.cons_append, cmpLL]; rw [if_neg (by simp [cmpB_zero])]; exact ih

theorem cmpLL_between : ∀ (a b s : List Bs), cmpLL a b < 0 → cmpLL b (a ++ s) < 0 → ∃ t, t ≠ [] ∧ b = a ++ t
  | [], b, s, h1, h2 => ⟨b, by rintro rfl; simp [cmpLL] at h1, rfl⟩
  | x :: xs, [], s, h1, h2 => by simp [cmpLL] at h1
  | x :: xs, y :: ys, s, h1, h2 => by
    simp only [List.cons_append, cmpLL] at h1 h2
    have hs := cmpB_swap x y
    by_cases hz : cmpB x y = 0
    · have hxy := cmpB_zero.1 hz
      subst hxy
      rw [if_neg (by omega)] at h1 h2
      obtain ⟨t, ht, rfl⟩ := cmpLL_between xs ys s h1 h2
      exact ⟨t, ht, rfl⟩
    · rw [if_pos hz] at h1
      rw [if_pos (by omega)] at h2
      omega

theorem pre_slash {a b : Bs} (h : (a ++ [47]).isPrefixOf b = true) : ∃ r, b = a ++ 47 :: r := by
  obtain ⟨r, rfl⟩ := List.isPrefixOf_iff_prefix.1 h
  exact ⟨r, by simp⟩

theorem under_lt {a b : Bs} (h : (a ++ [47]).isPrefixOf b = true) : cmpT a b < 0 := by
  obtain ⟨r, rfl⟩ := pre_slash h
  unfold cmpT
  rw [split_app]
  exact cmpLL_app_lt _ _ (splitL_ne r)

theorem between_under {a b c : Bs} (h1 : cmpT a b < 0) (h2 : cmpT b c < 0) (h : (a ++ [47]).isPrefixOf c = true) : (a ++ [47]).isPrefixOf b = true := by
  obtain ⟨r, rfl⟩ := pre_slash h
  unfold cmpT at h1 h2
  rw [split_app] at h2
  obtain ⟨t, ht, e⟩ := cmpLL_between _ _ _ h1 h2
  have := join_split b
  rw [e, join_app _ _ (splitL_ne a) ht, join_split] at this
  rw [← this]
  exact List.isPrefixOf_iff_prefix.2 ⟨joinL t, by simp⟩
end Go.Proofs.YtgijjkdcidhmdaaGreatDoor.PX
