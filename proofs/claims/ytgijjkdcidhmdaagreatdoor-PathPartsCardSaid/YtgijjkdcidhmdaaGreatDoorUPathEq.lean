/- What the printed functions of path and of its reference come to, in plain words. -/
import Derived.Test.YtgijjkdcidhmdaaGreatDoorSortPure
import Derived.Test.YtgijjkdcidhmdaaGreatDoorQ2
import Derived.Test.YtgijjkdcidhmdaaGreatDoorQ1
import Derived.Test.YtgijjkdcidhmdaaGreatDoorQ0
set_option linter.unusedVariables false
set_option linter.unusedSimpArgs false
namespace Go.Proofs.YtgijjkdcidhmdaaGreatDoor.Q
open Go.RowKit PX SU Go.Proofs.YtgijjkdcidhmdaaGreatDoorW.PrintWords

abbrev D (s : ByteArray) : Bs := s.data.toList
theorem toList_D (s : ByteArray) : s.toList = D s := ByteArray.toList_eq s
theorem size_D (s : ByteArray) : s.size = (D s).length := Lib.size_eq s
theorem ext_D {a b : ByteArray} : a = b ↔ D a = D b := ⟨fun h => by rw [h], ba_ext⟩
theorem extract_D (s : ByteArray) (a b : Nat) : D (s.extract a b) = ((D s).drop a).take (b - a) := Lib.extract_data s a b
theorem wrap_in {i : Int} (h0 : -9223372036854775808 ≤ i) (h1 : i ≤ 9223372036854775807) : wrap64 i = i := by unfold wrap64; omega

/-! ### Ev -/
theorem ev_bind {α β : Type} {g : Nat → Option α} {f : Nat → α → Option β} {a : α} {r : β} (h : Ev g a) (k : Ev (fun n => f n a) r) : Ev (fun n => (g n).bind (f n)) r := Ev.bind h k
theorem ev_some {α : Type} {o : Option α} {r : α} (h : o = some r) : Ev (fun _ => o) r := ⟨0, fun _ _ => h⟩

/-! ### the program's functions -/
theorem check_eq {s : ByteArray} (h : s.size < 4294967281) : path_Check.f s = some (if checkL (D s) then 0 else 2) := by unfold path_Check.f; rw [if_pos h]

theorem hasPrefix_eq (s p : ByteArray) : stringslite_HasPrefix.f s p = some ((D p).isPrefixOf (D s)) := by
  unfold stringslite_HasPrefix.f
  by_cases h : p.size ≤ s.size
  · rw [if_pos (by omega), if_pos (by omega), if_pos (by omega)]
    congr 1
    rw [toList_D, toList_D, extract_D, List.drop_zero, Nat.sub_zero, size_D p]
    rw [Bool.eq_iff_iff, beq_iff_eq, List.isPrefixOf_iff_prefix]
    constructor
    · intro h; exact h ▸ List.take_prefix _ _
    · rintro ⟨t, ht⟩; rw [← ht, List.take_left]
  · rw [if_neg (by omega)]
    congr 1
    cases hp : (D p).isPrefixOf (D s) with
    | false => rfl
    | true =>
      have := (List.isPrefixOf_iff_prefix.1 hp).length_le
      rw [← size_D, ← size_D] at this; omega

theorem cutPrefix_eq (s p : ByteArray) : strings_CutPrefix.f s p = some (if (D p).isPrefixOf (D s) then (mkB ((D s).drop (D p).length), true) else (s, false)) := by
  unfold strings_CutPrefix.f stringslite_CutPrefix.f
  rw [hasPrefix_eq]
  simp only [Option.bind_some]
  by_cases h : (D p).isPrefixOf (D s) = true
  · rw [if_pos h, if_pos h]
    have hl := (List.isPrefixOf_iff_prefix.1 h).length_le
    rw [← size_D, ← size_D] at hl
    rw [if_pos (by omega), if_pos (by omega)]
    simp only [Option.bind_some]
    congr 2
    refine ba_ext ?_
    show D (s.extract p.size s.size) = (D s).drop (D p).length
    rw [extract_D, size_D p, List.take_of_length_le]
    rw [List.length_drop, ← size_D]; omega
  · rw [if_neg h, if_neg h]; rfl

/-- a path lies under another one. -/
def underL (a b : Bs) : Bool := checkL a && checkL b && (a ++ [47]).isPrefixOf b

theorem prefix_cut (a b : Bs) : (a ++ [47]).isPrefixOf b = (a.isPrefixOf b && ([47] : Bs).isPrefixOf (b.drop a.length)) := by
  rw [Bool.eq_iff_iff, Bool.and_eq_true, List.isPrefixOf_iff_prefix, List.isPrefixOf_iff_prefix, List.isPrefixOf_iff_prefix]
  constructor
  · rintro ⟨t, rfl⟩
    refine ⟨⟨[47] ++ t, by simp⟩, ⟨t, by simp⟩⟩
  · rintro ⟨⟨t, rfl⟩, ⟨u, hu⟩⟩
    rw [List.drop_left] at hu
    exact ⟨u, by rw [← hu]; simp⟩

theorem under_eq {a b : ByteArray} (ha : a.size < 4294967281) (hb : b.size < 4294967281) : Ev (fun k => path_Under.f k a b) (underL (D a) (D b)) := by
  refine ⟨1, fun k hk => ?_⟩
  obtain ⟨k, rfl⟩ : ∃ m, k = m + 1 := ⟨k - 1, by omega⟩
  unfold path_Under.f
  rw [check_eq ha, check_eq hb]
  simp only [Option.bind_some]
  cases h1 : checkL (D a) with
  | false => simp [path_Under.j0, underL, h1]
  | true =>
    cases h2 : checkL (D b) with
    | false => simp [path_Under.j0, underL, h1, h2]
    | true =>
      simp only [if_true, path_Under.j0, underL, h1, h2, Bool.true_and]
      rw [prefix_cut, cutPrefix_eq]
      by_cases h : (D a).isPrefixOf (D b) = true
      · simp only [h, if_true, Option.bind_some]
        unfold strings_HasPrefix.f
        rw [hasPrefix_eq]
        simp [mkB]
      · have h' : (D a).isPrefixOf (D b) = false := by simpa using h
        simp [h']

def nearL (a b : Bs) : Bool := (a == b && checkL a) || underL a b || underL b a

theorem near_eq {a b : ByteArray} (ha : a.size < 4294967281) (hb : b.size < 4294967281) : Ev (fun k => path_Near.f k a b) (nearL (D a) (D b)) := by
  obtain ⟨K1, h1⟩ := under_eq ha hb
  obtain ⟨K2, h2⟩ := under_eq hb ha
  refine ⟨K1 + K2, fun k hk => ?_⟩
  have h1 := h1 k (by omega)
  have h2 := h2 k (by omega)
  unfold path_Near.f
  simp only [toList_D, h1, h2, Option.bind_some, check_eq ha]
  unfold nearL
  by_cases hab : D a = D b
  · rw [if_pos hab]
    cases hc : checkL (D a) <;> cases hu : underL (D a) (D b) <;> simp [hab]
    all_goals (rw [hab] at hc hu; simp [hc, hu])
  · rw [if_neg hab]
    have e : (D a == D b) = false := beq_eq_false_iff_ne.2 hab
    rw [e]
    cases hu : underL (D a) (D b) <;> simp

theorem bt_D (s : ByteArray) (i : Nat) (h : i < (D s).length) : bt s (i : Int) = (((D s)[i]'h).toNat : Int) := by
  have h' : i < s.size := by rw [size_D]; exact h
  unfold bt
  rw [Int.toNat_natCast, dif_pos h']; rfl

theorem pieces_D (s : ByteArray) : (pieces s).map D = splitL (D s) := pieces_dl s

/-- The reference's cut, from byte i on, the part at hand begun at 'fr'. -/
theorem cut_loop (s : ByteArray) (hs : s.size < 4294967281) : ∀ (d i fr : Nat) (acc : List ByteArray), s.size - i = d → fr ≤ i → i ≤ s.size → acc.length ≤ i → (47 : UInt8) ∉ ((D s).drop fr).take (i - fr) →
    ∃ K, ∀ k, K ≤ k → tributaryref03_cut.l0 k s acc (fr : Int) (i : Int) = some (acc ++ (splitL ((D s).drop fr)).map mkB) := by
  intro d
  induction d with
  | zero =>
    intro i fr acc hd h1 h2 ha hn
    refine ⟨1, fun k hk => ?_⟩
    obtain ⟨k, rfl⟩ : ∃ m, k = m + 1 := ⟨k - 1, by omega⟩
    simp only [tributaryref03_cut.l0]
    rw [if_neg (by omega), if_pos (by omega), if_pos (by omega), if_pos (by omega)]
    have hi : i = s.size := by omega
    have he : ((D s).drop fr).take (i - fr) = (D s).drop fr := List.take_of_length_le (by rw [List.length_drop, ← size_D]; omega)
    rw [he] at hn
    rw [split_one _ hn]
    congr 2
    simp only [List.map_cons, List.map_nil, List.cons.injEq, and_true]
    refine ba_ext ?_
    show D (s.extract (fr : Int).toNat s.size) = (D s).drop fr
    rw [extract_D, Int.toNat_natCast, List.take_of_length_le]
    rw [List.length_drop, ← size_D]
    exact Nat.le_refl _
  | succ d ih =>
    intro i fr acc hd h1 h2 ha hn
    have hi : i < s.size := by omega
    have hi' : i < (D s).length := by rw [← size_D]; exact hi
    have hw : wrap64 ((i : Int) + 1) = ((i + 1 : Nat) : Int) := by rw [wrap_in (by omega) (by omega)]; omega
    have hsplit : ((D s).drop fr) = ((D s).drop fr).take (i - fr) ++ (D s)[i] :: (D s).drop (i + 1) := by
      conv => lhs; rw [← List.take_append_drop (i - fr) ((D s).drop fr)]
      rw [List.drop_drop, show fr + (i - fr) = i by omega, List.drop_eq_getElem_cons hi']
    by_cases hc : (D s)[i] = 47
    · obtain ⟨K, hK⟩ := ih (i + 1) (i + 1) (acc ++ [s.extract fr i]) (by omega) (Nat.le_refl _) (by omega) (by simp; omega) (by simp)
      refine ⟨K + 1, fun k hk => ?_⟩
      obtain ⟨k, rfl⟩ : ∃ m, k = m + 1 := ⟨k - 1, by omega⟩
      have hk := hK k (by omega)
      simp only [tributaryref03_cut.l0]
      rw [if_pos (by omega), if_pos (by omega), if_pos (by rw [bt_D s i hi', hc]; rfl), if_pos (by omega), if_pos (by omega), if_pos (by omega), if_pos (by omega), hw, Int.toNat_natCast, Int.toNat_natCast, hk]
      congr 1
      rw [hsplit, hc, split_append _ hn, List.map_cons, List.append_assoc]
      congr 2
      simp only [List.singleton_append, List.cons.injEq, and_true]
      refine ba_ext ?_
      show D (s.extract fr i) = ((D s).drop fr).take (i - fr)
      rw [extract_D]
    · obtain ⟨K, hK⟩ := ih (i + 1) fr acc (by omega) (by omega) (by omega) (by omega) (by
        have e : ((D s).drop fr).take (i + 1 - fr) = ((D s).drop fr).take (i - fr) ++ [(D s)[i]] := by
          rw [show i + 1 - fr = (i - fr) + 1 by omega, List.take_succ_eq_append_getElem (by rw [List.length_drop]; omega), List.getElem_drop]
          congr 2
          simp only [show fr + (i - fr) = i by omega]
        rw [e]
        intro hm
        rcases List.mem_append.1 hm with h | h
        · exact hn h
        · exact hc (List.mem_singleton.1 h).symm)
      refine ⟨K + 1, fun k hk => ?_⟩
      obtain ⟨k, rfl⟩ : ∃ m, k = m + 1 := ⟨k - 1, by omega⟩
      have hk := hK k (by omega)
      simp only [tributaryref03_cut.l0]
      rw [if_pos (by omega), if_pos (by omega), if_neg (by
        rw [bt_D s i hi']; intro h
        exact hc (UInt8.toNat_inj.1 (by have : (47 : UInt8).toNat = 47 := rfl; omega))), hw, hk]

theorem cut_eq {s : ByteArray} (hs : s.size < 4294967281) : Ev (fun k => tributaryref03_cut.f k s) (pieces s) := by
  obtain ⟨K, hK⟩ := cut_loop s hs (s.size - 0) 0 0 [] rfl (Nat.le_refl _) (Nat.zero_le _) (Nat.le_refl _) (by simp)
  exact ⟨K, fun k hk => by unfold tributaryref03_cut.f; have := hK k hk; simpa [pieces] using this⟩

def okP (n : Int) : Prop := (97 ≤ n ∧ n ≤ 122) ∨ (48 ≤ n ∧ n ≤ 57) ∨ n = 46 ∨ n = 95 ∨ n = 45
instance (n : Int) : Decidable (okP n) := by unfold okP; exact inferInstance
theorem okc_P (b : UInt8) : okc b = decide (okP (b.toNat : Int)) := by
  rw [Bool.eq_iff_iff, decide_eq_true_eq]
  unfold okc okP
  simp only [Bool.or_eq_true, Bool.and_eq_true, decide_eq_true_eq, beq_iff_eq, UInt8.le_iff_toNat_le, ← UInt8.toNat_inj]
  have e1 : (97 : UInt8).toNat = 97 := rfl
  have e2 : (122 : UInt8).toNat = 122 := rfl
  have e3 : (48 : UInt8).toNat = 48 := rfl
  have e4 : (57 : UInt8).toNat = 57 := rfl
  have e5 : (46 : UInt8).toNat = 46 := rfl
  have e6 : (95 : UInt8).toNat = 95 := rfl
  have e7 : (45 : UInt8).toNat = 45 := rfl
  rw [e1, e2, e3, e4, e5, e6, e7]
  omega
theorem part_tree {α : Type} (n : Int) (R F : α) :
    (if n < 97 then (if n < 48 then (if n = 46 then R else (if n = 95 then R else (if n = 45 then R else F))) else (if n > 57 then (if n = 46 then R else (if n = 95 then R else (if n = 45 then R else F))) else R)) else (if n > 122 then (if n < 48 then (if n = 46 then R else (if n = 95 then R else (if n = 45 then R else F))) else (if n > 57 then (if n = 46 then R else (if n = 95 then R else (if n = 45 then R else F))) else R)) else R)) = if okP n then R else F := by
  by_cases hP : okP n
  · rw [if_pos hP]
    unfold okP at hP
    repeat' split
    all_goals first | rfl | (exfalso; omega)
  · rw [if_neg hP]
    unfold okP at hP
    repeat' split
    all_goals first | rfl | (exfalso; omega)

theorem part_loop (s : ByteArray) (hs : s.size < 4294967281) : ∀ (d i : Nat), s.size - i = d → i ≤ s.size → ((D s).take i).all okc = true →
    ∃ K, ∀ k, K ≤ k → tributaryref03_part.l0 k s (i : Int) = some (partL (D s)) := by
  intro d
  induction d with
  | zero =>
    intro i hd h1 hall
    refine ⟨1, fun k hk => ?_⟩
    obtain ⟨k, rfl⟩ : ∃ m, k = m + 1 := ⟨k - 1, by omega⟩
    simp only [tributaryref03_part.l0]
    rw [List.take_of_length_le (by rw [← size_D]; omega)] at hall
    rw [if_neg (by omega)]
    unfold partL
    rw [hall, toList_D]
    by_cases c1 : 1 ≤ s.size
    · rw [if_pos (by omega)]
      by_cases c2 : s.size ≤ 12
      · rw [if_pos (by omega)]
        rw [← size_D]
        have e1 : decide (1 ≤ s.size) = true := decide_eq_true c1
        have e2 : decide (s.size ≤ 12) = true := decide_eq_true c2
        rw [e1, e2]
        by_cases c3 : D s = [46]
        · rw [if_pos c3, c3]; rfl
        · rw [if_neg c3]
          have e3 : (D s != [46]) = true := by rw [bne_iff_ne]; exact c3
          rw [e3]; simp
      · rw [if_neg (by omega), ← size_D]; simp [c2]
    · rw [if_neg (by omega), ← size_D]; simp [c1]
  | succ d ih =>
    intro i hd h1 hall
    have hi : i < s.size := by omega
    have hi' : i < (D s).length := by rw [← size_D]; exact hi
    have hw : wrap64 ((i : Int) + 1) = ((i + 1 : Nat) : Int) := by rw [wrap_in (by omega) (by omega)]; omega
    have step : ∀ k, tributaryref03_part.l0 (k + 1) s (i : Int) = if okP (((D s)[i]).toNat : Int) then tributaryref03_part.l0 k s ((i + 1 : Nat) : Int) else some false := by
      intro k
      simp only [tributaryref03_part.l0]
      rw [if_pos (by omega), if_pos (by omega), hw, bt_D s i hi']
      exact part_tree _ _ _
    by_cases hok : okc (D s)[i] = true
    · obtain ⟨K, hK⟩ := ih (i + 1) (by omega) (by omega) (by
        rw [List.take_succ_eq_append_getElem hi', List.all_append, hall]; simp only [List.all_cons, List.all_nil, hok, Bool.and_true])
      refine ⟨K + 1, fun k hk => ?_⟩
      obtain ⟨k, rfl⟩ : ∃ m, k = m + 1 := ⟨k - 1, by omega⟩
      rw [step, if_pos (by rw [okc_P, decide_eq_true_eq] at hok; exact hok)]
      exact hK k (by omega)
    · refine ⟨1, fun k hk => ?_⟩
      obtain ⟨k, rfl⟩ : ∃ m, k = m + 1 := ⟨k - 1, by omega⟩
      rw [step, if_neg (by rw [okc_P, decide_eq_true_eq] at hok; exact hok)]
      have : (D s).all okc = false := by
        rw [List.all_eq_false]
        exact ⟨(D s)[i], List.getElem_mem _, by simpa using hok⟩
      unfold partL; rw [this]; simp

theorem part_eq {s : ByteArray} (hs : s.size < 4294967281) : Ev (fun k => tributaryref03_part.f k s) (partL (D s)) := by
  obtain ⟨K, hK⟩ := part_loop s hs (s.size - 0) 0 rfl (Nat.zero_le _) (by simp)
  exact ⟨K, fun k hk => by unfold tributaryref03_part.f; exact hK k hk⟩

theorem rd_at (xs : List ByteArray) (i : Nat) (h : i < xs.length) : rdOf ByteArray.empty xs (i : Int) = xs[i] := by
  unfold rdOf
  rw [Int.toNat_natCast, List.getD_eq_getElem?_getD, List.getElem?_eq_getElem h]; rfl

theorem ite_and (p r : Bool) : (if p = true then some (if r = true then (0 : Int) else 2) else some 2) = some (if (p && r) = true then 0 else 2) := by cases p <;> rfl
theorem rcheck_loop (xs : List ByteArray) (hs : ∀ x ∈ xs, x.size < 4294967281) (hl : xs.length < 4294967290) : ∀ (d i : Nat), xs.length - i = d → i ≤ xs.length →
    ∃ K, ∀ k, K ≤ k → tributaryref03_Check.l0 k xs (i : Int) = some (if (xs.drop i).all (fun x => partL (D x)) then 0 else 2) := by
  intro d
  induction d with
  | zero =>
    intro i hd h1
    refine ⟨1, fun k hk => ?_⟩
    obtain ⟨k, rfl⟩ : ∃ m, k = m + 1 := ⟨k - 1, by omega⟩
    simp only [tributaryref03_Check.l0]
    rw [if_neg (by omega), List.drop_of_length_le (by omega)]; rfl
  | succ d ih =>
    intro i hd h1
    have hi : i < xs.length := by omega
    have hw : wrap64 ((i : Int) + 1) = ((i + 1 : Nat) : Int) := by rw [wrap_in (by omega) (by omega)]; omega
    obtain ⟨K1, h1⟩ := part_eq (hs xs[i] (List.getElem_mem _))
    obtain ⟨K2, h2⟩ := ih (i + 1) (by omega) (by omega)
    refine ⟨K1 + K2 + 1, fun k hk => ?_⟩
    obtain ⟨k, rfl⟩ : ∃ m, k = m + 1 := ⟨k - 1, by omega⟩
    have h1 := h1 k (by omega)
    have h2 := h2 k (by omega)
    simp only [] at h1
    simp only [tributaryref03_Check.l0]
    rw [if_pos (by omega), if_pos (by omega), rd_at xs i hi, h1, hw, h2, List.drop_eq_getElem_cons hi]
    simp only [Option.bind_some]
    exact ite_and _ _

theorem pieces_mem_size {s x : ByteArray} (h : x ∈ pieces s) : x.size ≤ s.size := pieces_size h

theorem rcheck_eq {s : ByteArray} (hs : s.size < 4294967281) : Ev (fun k => tributaryref03_Check.f k s) (if checkL (D s) then 0 else 2) := by
  obtain ⟨K1, h1⟩ := cut_eq hs
  have hl := pieces_le s hs
  obtain ⟨K2, h2⟩ := rcheck_loop (pieces s) (fun x hx => Nat.lt_of_le_of_lt (pieces_size hx) hs) (by omega) ((pieces s).length - 0) 0 rfl (Nat.zero_le _)
  refine ⟨K1 + K2, fun k hk => ?_⟩
  have h1 := h1 k (by omega)
  have h2 := h2 k (by omega)
  simp only [] at h1
  show tributaryref03_Check.f k s = _
  unfold tributaryref03_Check.f
  have h2' : tributaryref03_Check.l0 k (pieces s) 0 = _ := h2
  rw [h1]
  simp only [Option.bind_some]
  rw [h2', okp_check]
  unfold okp
  by_cases h6 : (pieces s).length ≤ 6
  · rw [if_neg (by omega), List.drop_zero]
    simp [h6]
  · rw [if_pos (by omega)]
    simp [h6]

def longL (xs : List ByteArray) : Bool := xs.any (fun x => decide (200 < x.size)) || decide (30 < xs.length)

theorem long_loop (xs : List ByteArray) (lx : xs.length < 9000000000000) : ∀ (d i : Nat), xs.length - i = d → i ≤ xs.length →
    ∃ K, ∀ k, K ≤ k → tributarylaw03_long.l0 k xs (i : Int) = some ((xs.drop i).any (fun x => decide (200 < x.size)) || decide (30 < xs.length)) := by
  intro d
  induction d with
  | zero =>
    intro i hd h1
    refine ⟨1, fun k hk => ?_⟩
    obtain ⟨k, rfl⟩ : ∃ m, k = m + 1 := ⟨k - 1, by omega⟩
    simp only [tributarylaw03_long.l0]
    rw [if_neg (by omega), List.drop_of_length_le (by omega)]
    simp; omega
  | succ d ih =>
    intro i hd h1
    have hi : i < xs.length := by omega
    have hw : wrap64 ((i : Int) + 1) = ((i + 1 : Nat) : Int) := by rw [wrap_in (by omega) (by omega)]; omega
    obtain ⟨K, hK⟩ := ih (i + 1) (by omega) (by omega)
    refine ⟨K + 1, fun k hk => ?_⟩
    obtain ⟨k, rfl⟩ : ∃ m, k = m + 1 := ⟨k - 1, by omega⟩
    have hK := hK k (by omega)
    simp only [tributarylaw03_long.l0]
    rw [if_pos (by omega), if_pos (by omega), rd_at xs i hi, hw, List.drop_eq_getElem_cons hi, List.any_cons]
    by_cases hb : 200 < xs[i].size
    · rw [if_pos (by omega), decide_eq_true hb]; simp
    · rw [if_neg (by omega), hK, decide_eq_false hb, Bool.false_or]

theorem long_eq (xs : List ByteArray) (lx : xs.length < 9000000000000) : Ev (fun k => tributarylaw03_long.f k xs) (longL xs) := by
  obtain ⟨K, hK⟩ := long_loop xs lx (xs.length - 0) 0 rfl (Nat.zero_le _)
  exact ⟨K, fun k hk => by have := hK k hk; show tributarylaw03_long.f k xs = _; unfold tributarylaw03_long.f; exact this⟩

theorem long_no {xs : List ByteArray} (h : longL xs = false) : (∀ x ∈ xs, x.size ≤ 200) ∧ xs.length ≤ 30 := by
  unfold longL at h
  simp only [Bool.or_eq_false_iff, List.any_eq_false, decide_eq_true_eq, decide_eq_false_iff_not] at h
  exact ⟨fun x hx => by have := h.1 x hx; omega, by omega⟩

theorem awake_eq : Ev (fun k => tributarylaw03_awake.f k) true := Ev.of tributarylaw03_awake.mono (k := 40) (by decide +kernel)
end Go.Proofs.YtgijjkdcidhmdaaGreatDoor.Q
