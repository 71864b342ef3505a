/- Plain facts about texts as lists of bytes: cutting at '/', joining, the order of texts by their parts. No program in sight. -/
import GoSem.Op.String
set_option linter.unusedVariables false
namespace Go.Proofs.YtpnaenbpffhjfaaGreatDoor.PX
open Go

abbrev Bs := List UInt8

def okc (c : UInt8) : Bool := (97 ≤ c && c ≤ 122) || (48 ≤ c && c ≤ 57) || c == 46 || c == 95 || c == 45

def splitL : Bs → List Bs
  | [] => [[]]
  | c :: t => if c = 47 then [] :: splitL t else
    match splitL t with
    | [] => [[c]]
    | h :: r => (c :: h) :: r

def joinL : List Bs → Bs
  | [] => []
  | [x] => x
  | x :: y :: r => x ++ 47 :: joinL (y :: r)

def partL (l : Bs) : Bool := decide (1 ≤ l.length) && decide (l.length ≤ 12) && l != [46] && l != [46, 46] && l.all okc

def checkL (l : Bs) : Bool := decide ((splitL l).length ≤ 6) && (splitL l).all partL

theorem splitL_ne (l : Bs) : splitL l ≠ [] := by
  cases l with
  | nil => simp [splitL]
  | cons c t => simp only [splitL]; split
                · simp
                · split <;> simp

theorem joinL_cons (x : Bs) (r : List Bs) (h : r ≠ []) : joinL (x :: r) = x ++ 47 :: joinL r := by
  cases r with
  | nil => exact absurd rfl h
  | cons y s => rfl

theorem join_split (l : Bs) : joinL (splitL l) = l := by
  induction l with
  | nil => rfl
  | cons c t ih =>
    simp only [splitL]
    split
    · rename_i h; rw [joinL_cons _ _ (splitL_ne t), ih, h]; rfl
    · rename_i h
      split
      · rename_i h2; exact absurd h2 (splitL_ne t)
      · rename_i h0 r h2
        rw [h2] at ih
        cases r with
        | nil => simp only [joinL] at ih ⊢; rw [ih]
        | cons y s => simp only [joinL] at ih ⊢; rw [← ih]; rfl

theorem split_noslash (l : Bs) : ∀ x ∈ splitL l, (47 : UInt8) ∉ x := by
  induction l with
  | nil => simp [splitL]
  | cons c t ih =>
    simp only [splitL]
    split
    · intro x hx
      rcases List.mem_cons.1 hx with rfl | hx
      · simp
      · exact ih x hx
    · rename_i h
      split
      · rename_i h2; exact absurd h2 (splitL_ne t)
      · rename_i h0 r h2
        intro x hx
        rcases List.mem_cons.1 hx with rfl | hx
        · intro hm
          rcases List.mem_cons.1 hm with e | hm
          · exact h e.symm
          · exact ih h0 (by rw [h2]; simp) hm
        · exact ih x (by rw [h2]; simp [hx])

theorem split_append (x : Bs) (h : (47 : UInt8) ∉ x) (r : Bs) : splitL (x ++ 47 :: r) = x :: splitL r := by
  induction x with
  | nil => simp [splitL]
  | cons c t ih =>
    have hc : c ≠ 47 := fun e => h (by simp [e])
    have ht : (47 : UInt8) ∉ t := fun e => h (by simp [e])
    simp only [List.cons_append, splitL]
    rw [if_neg hc, ih ht]

theorem split_one (x : Bs) (h : (47 : UInt8) ∉ x) : splitL x = [x] := by
  induction x with
  | nil => rfl
  | cons c t ih =>
    have hc : c ≠ 47 := fun e => h (by simp [e])
    have ht : (47 : UInt8) ∉ t := fun e => h (by simp [e])
    simp only [splitL]
    rw [if_neg hc, ih ht]

theorem split_join (l : List Bs) (hl : l ≠ []) (h : ∀ x ∈ l, (47 : UInt8) ∉ x) : splitL (joinL l) = l := by
  induction l with
  | nil => exact absurd rfl hl
  | cons x r ih =>
    cases r with
    | nil => simp only [joinL]; exact split_one x (h x (by simp))
    | cons y s =>
      rw [joinL_cons _ _ (by simp), split_append _ (h x (by simp)), ih (by simp) (fun z hz => h z (by simp [hz]))]

theorem split_inj {a b : Bs} (h : splitL a = splitL b) : a = b := by rw [← join_split a, h, join_split b]

theorem part_noslash {x : Bs} (h : partL x = true) : (47 : UInt8) ∉ x := by
  intro hm
  simp only [partL, Bool.and_eq_true] at h
  have := List.all_eq_true.1 h.2 47 hm
  revert this; decide

/-! ### the order -/
def cmpB (a b : Bs) : Int := if Op.bytesLess a b then -1 else if Op.bytesLess b a then 1 else 0

def cmpLL : List Bs → List Bs → Int
  | [], [] => 0
  | [], _ :: _ => -1
  | _ :: _, [] => 1
  | x :: xs, y :: ys => if cmpB x y ≠ 0 then cmpB x y else cmpLL xs ys

def cmpT (a b : Bs) : Int := cmpLL (splitL a) (splitL b)

theorem bl_irrefl (a : Bs) : Op.bytesLess a a = false := by
  induction a with
  | nil => rfl
  | cons x t ih => simp only [Op.bytesLess, ih]; simp

theorem bl_trans : ∀ (a b c : Bs), Op.bytesLess a b = true → Op.bytesLess b c = true → Op.bytesLess a c = true
  | _, _, [], _, h => by simp [Op.bytesLess] at h
  | _, [], _ :: _, h, _ => by simp [Op.bytesLess] at h
  | [], _ :: _, _ :: _, _, _ => by simp [Op.bytesLess]
  | x :: a, y :: b, z :: c, h1, h2 => by
    simp only [Op.bytesLess, Bool.or_eq_true, Bool.and_eq_true, decide_eq_true_eq, beq_iff_eq] at h1 h2 ⊢
    rcases h1 with h1 | ⟨h1, h1'⟩
    · rcases h2 with h2 | ⟨h2, h2'⟩
      · left; exact UInt8.lt_trans h1 h2
      · left; rw [← h2]; exact h1
    · rcases h2 with h2 | ⟨h2, h2'⟩
      · left; rw [h1]; exact h2
      · right; exact ⟨h1.trans h2, bl_trans a b c h1' h2'⟩

theorem bl_total : ∀ (a b : Bs), Op.bytesLess a b = false → Op.bytesLess b a = false → a = b
  | [], [], _, _ => rfl
  | [], _ :: _, h, _ => by simp [Op.bytesLess] at h
  | _ :: _, [], _, h => by simp [Op.bytesLess] at h
  | x :: a, y :: b, h1, h2 => by
    simp only [Op.bytesLess, Bool.or_eq_false_iff, decide_eq_false_iff_not] at h1 h2
    have e : x = y := UInt8.le_antisymm (UInt8.not_lt.1 h2.1) (UInt8.not_lt.1 h1.1)
    subst e
    simp only [beq_self_eq_true, Bool.true_and] at h1 h2
    rw [bl_total a b h1.2 h2.2]

theorem bl_asymm {a b : Bs} (h : Op.bytesLess a b = true) : Op.bytesLess b a = false := by
  cases h2 : Op.bytesLess b a with
  | false => rfl
  | true => have := bl_trans a b a h h2; rw [bl_irrefl] at this; cases this

theorem cmpB_lt {a b : Bs} : cmpB a b < 0 ↔ Op.bytesLess a b = true := by
  unfold cmpB; split
  · rename_i h; simp [h]
  · rename_i h; split <;> simp [h]
theorem cmpB_zero {a b : Bs} : cmpB a b = 0 ↔ a = b := by
  unfold cmpB; split
  · rename_i h
    simp only [Int.reduceNeg, Int.reduceEq, false_iff]
    rintro rfl; rw [bl_irrefl] at h; cases h
  · rename_i h; split
    · rename_i h2
      simp only [Int.reduceEq, false_iff]
      rintro rfl; rw [bl_irrefl] at h2; cases h2
    · rename_i h2
      simp only [true_iff]
      exact bl_total a b (by simpa using h) (by simpa using h2)
theorem cmpB_swap (a b : Bs) : cmpB b a = - cmpB a b := by
  unfold cmpB
  by_cases h : Op.bytesLess a b = true
  · simp [h, bl_asymm h]
  · by_cases h2 : Op.bytesLess b a = true <;> simp [h, h2]

theorem cmpLL_zero : ∀ {a b : List Bs}, cmpLL a b = 0 ↔ a = b
  | [], [] => by simp [cmpLL]
  | [], _ :: _ => by simp [cmpLL]
  | _ :: _, [] => by simp [cmpLL]
  | x :: xs, y :: ys => by
    simp only [cmpLL]
    split
    · rename_i h
      constructor
      · intro h'; exact absurd h' h
      · intro h'; cases h'; exact absurd (cmpB_zero.2 rfl) h
    · rename_i h
      have e : x = y := cmpB_zero.1 (by simpa using h)
      subst e
      rw [cmpLL_zero]; simp
theorem cmpLL_swap : ∀ (a b : List Bs), cmpLL b a = - cmpLL a b
  | [], [] => rfl
  | [], _ :: _ => rfl
  | _ :: _, [] => rfl
  | x :: xs, y :: ys => by
    simp only [cmpLL]
    rw [cmpB_swap x y, cmpLL_swap xs ys]
    by_cases h : cmpB x y = 0
    · simp [h]
    · rw [if_pos (by omega), if_pos h]
theorem cmpLL_trans : ∀ (a b c : List Bs), cmpLL a b < 0 → cmpLL b c < 0 → cmpLL a c < 0
  | _, [], [], _, h => by simp [cmpLL] at h
  | [], _ :: _, [], _, h => by simp [cmpLL] at h
  | _ :: _, _ :: _, [], _, h => by simp [cmpLL] at h
  | [], [], _ :: _, _, _ => by simp [cmpLL]
  | _ :: _, [], _ :: _, h, _ => by simp [cmpLL] at h
  | [], _ :: _, _ :: _, _, _ => by simp [cmpLL]
  | x :: a, y :: b, z :: c, h1, h2 => by
    simp only [cmpLL] at h1 h2 ⊢
    by_cases e1 : cmpB x y = 0
    · rw [if_neg (by simp [e1])] at h1
      have e := cmpB_zero.1 e1; subst e
      by_cases e2 : cmpB x z = 0
      · rw [if_neg (by simp [e2])] at h2; rw [if_neg (by simp [e2])]
        exact cmpLL_trans a b c h1 h2
      · rw [if_pos e2] at h2 ⊢; exact h2
    · rw [if_pos e1] at h1
      by_cases e2 : cmpB y z = 0
      · have e := cmpB_zero.1 e2; subst e
        rw [if_pos e1]; exact h1
      · rw [if_pos e2] at h2
        have h3 : cmpB x z < 0 := cmpB_lt.2 (bl_trans _ _ _ (cmpB_lt.1 h1) (cmpB_lt.1 h2))
        rw [if_pos (by omega)]; exact h3

theorem cmpT_zero {a b : Bs} : cmpT a b = 0 ↔ a = b := by
  unfold cmpT; rw [cmpLL_zero]; exact ⟨split_inj, fun h => by rw [h]⟩
theorem cmpT_swap (a b : Bs) : cmpT b a = - cmpT a b := cmpLL_swap _ _
theorem cmpT_trans {a b c : Bs} (h1 : cmpT a b < 0) (h2 : cmpT b c < 0) : cmpT a c < 0 := cmpLL_trans _ _ _ h1 h2

end Go.Proofs.YtpnaenbpffhjfaaGreatDoor.PX
