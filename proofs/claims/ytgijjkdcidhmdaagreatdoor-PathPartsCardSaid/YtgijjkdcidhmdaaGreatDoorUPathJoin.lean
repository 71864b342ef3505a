/- path.Split, path.Join, path.Parent, path.Base: what the printed functions answer, as facts on lists of bytes. -/
import Derived.Test.YtgijjkdcidhmdaaGreatDoorUPathEq
import Derived.Test.YtgijjkdcidhmdaaGreatDoorUStrs
import Derived.Test.YtgijjkdcidhmdaaGreatDoorPathPure2
import Derived.Test.YtgijjkdcidhmdaaGreatDoorPathJoinW
import Derived.Lib.LastIndexByte
set_option linter.unusedVariables false
namespace Go.Proofs.YtgijjkdcidhmdaaGreatDoor.PX
theorem join_lib (l : List Bs) : Lib.join l [47] = joinL l := by
  induction l with
  | nil => rfl
  | cons x r ih =>
    cases r with
    | nil => simp [Lib.join, List.intercalate, joinL]
    | cons y s =>
      rw [joinL_cons _ _ (by simp), ← ih]
      simp [Lib.join, List.intercalate, List.intersperse]

theorem joinL_le (m : Nat) : ∀ l : List Bs, (∀ x ∈ l, x.length ≤ m) → (joinL l).length ≤ l.length * (m + 1)
  | [], _ => by simp [joinL]
  | [x], h => by have := h x (by simp); simp [joinL]; omega
  | x :: y :: s, h => by
    have h1 := h x (by simp)
    have h2 := joinL_le m (y :: s) (fun z hz => h z (List.mem_cons_of_mem _ hz))
    rw [joinL_cons x (y :: s) (by simp), List.length_append, List.length_cons, show (x :: y :: s).length = (y :: s).length + 1 from rfl, Nat.add_mul, Nat.one_mul]
    omega

/-- A text's last part, and what stands ahead of it. -/
theorem split_last (p b : Bs) (h : (47 : UInt8) ∉ b) : splitL (p ++ 47 :: b) = splitL p ++ [b] := by rw [split_app, split_one b h]

theorem check_head {p b : Bs} (h : (47 : UInt8) ∉ b) (hc : checkL (p ++ 47 :: b) = true) : checkL p = true ∧ p ≠ [] := by
  unfold checkL at hc ⊢
  rw [split_last p b h] at hc
  simp only [Bool.and_eq_true, decide_eq_true_eq, List.all_append, List.length_append] at hc ⊢
  refine ⟨⟨by omega, hc.2.1⟩, ?_⟩
  rintro rfl
  have := hc.2.1
  simp [splitL, partL] at this
end Go.Proofs.YtgijjkdcidhmdaaGreatDoor.PX
namespace Go.Proofs.YtgijjkdcidhmdaaGreatDoor.Q
open Go.RowKit PX SU Go.Proofs.YtgijjkdcidhmdaaGreatDoorW.PrintWords

theorem pieces_inj {a b : ByteArray} (h : pieces a = pieces b) : a = b := by
  have := congrArg (List.map D) h
  rw [pieces_D, pieces_D] at this
  exact ba_ext (split_inj this)

theorem psplit_eq {s : ByteArray} (hs : s.size < 4294967281) : path_Split.f s = some (if checkL (D s) then (pieces s, 0) else ([], 2)) := by
  unfold path_Split.f
  rw [check_eq hs]
  cases h : checkL (D s) with
  | false => simp
  | true =>
    simp only [Option.bind_some, if_true]
    unfold strings_Split.f
    rw [if_pos ⟨hs, rfl⟩]
    rfl

theorem equal_loop (a b : List ByteArray) (hl : a.length < 9000000000000) (he : a.length = b.length) : ∀ (d i : Nat), a.length - i = d → i ≤ a.length →
    ∃ K, ∀ k, K ≤ k → slices_Equal_string_string.l0 k a b (a.length : Int) (i : Int) = some (decide (a.drop i = b.drop i)) := by
  intro d
  induction d with
  | zero =>
    intro i hd h1
    refine ⟨1, fun k hk => ?_⟩
    obtain ⟨k, rfl⟩ : ∃ m, k = m + 1 := ⟨k - 1, by omega⟩
    simp only [slices_Equal_string_string.l0]
    rw [if_neg (by omega), show a.drop i = [] from List.drop_of_length_le (by omega), show b.drop i = [] from List.drop_of_length_le (by omega)]
    simp
  | succ d ih =>
    intro i hd h1
    have hi : i < a.length := by omega
    have hj : i < b.length := by omega
    have hw : wrap64 ((i : Int) + 1) = ((i + 1 : Nat) : Int) := by rw [wrap_in (by omega) (by omega)]; omega
    obtain ⟨K, hK⟩ := ih (i + 1) (by omega) (by omega)
    refine ⟨K + 1, fun k hk => ?_⟩
    obtain ⟨k, rfl⟩ : ∃ m, k = m + 1 := ⟨k - 1, by omega⟩
    have hK := hK k (by omega)
    simp only [slices_Equal_string_string.l0]
    rw [if_pos (by omega), if_pos (by omega), if_pos (by omega), if_pos (by omega), rd_at a i hi, rd_at b i hj, toList_D, toList_D, hw, List.drop_eq_getElem_cons hi, List.drop_eq_getElem_cons hj]
    by_cases hd : D a[i] = D b[i]
    · rw [if_pos hd, hK]
      have e : a[i] = b[i] := ba_ext hd
      congr 1
      rw [Bool.eq_iff_iff, decide_eq_true_eq, decide_eq_true_eq, List.cons.injEq]
      exact ⟨fun h => ⟨e, h⟩, fun h => h.2⟩
    · rw [if_neg hd]
      congr 1
      rw [eq_comm, decide_eq_false_iff_not, List.cons.injEq]
      exact fun h => hd (by rw [h.1])
theorem equal_eq (a b : List ByteArray) (hl : a.length < 9000000000000) : Ev (fun k => slices_Equal_string_string.f k a b) (decide (a = b)) := by
  by_cases he : a.length = b.length
  · obtain ⟨K, hK⟩ := equal_loop a b hl he (a.length - 0) 0 rfl (Nat.zero_le _)
    refine ⟨K, fun k hk => ?_⟩
    have := hK k hk
    show slices_Equal_string_string.f k a b = _
    unfold slices_Equal_string_string.f
    rw [if_pos (by omega)]
    simpa using this
  · refine ⟨0, fun k _ => ?_⟩
    show slices_Equal_string_string.f k a b = _
    unfold slices_Equal_string_string.f
    rw [if_neg (by omega), decide_eq_false (fun h => he (by rw [h]))]

/-- What path.Join answers. -/
def joinR (l : List ByteArray) : ByteArray × Int := if checkL (joinL (l.map D)) && decide (pieces (mkB (joinL (l.map D))) = l) then (mkB (joinL (l.map D)), 0) else (⟨#[]⟩, 2)
theorem pjoin_eq {l : List ByteArray} (hs : ∀ x ∈ l, x.size ≤ 200) (hl : l.length ≤ 1000) : Ev (fun k => path_Join.f k l) (joinR l) := by
  have hj : (joinL (l.map D)).length ≤ 201000 := by
    have := joinL_le 200 (l.map D) (fun x hx => by obtain ⟨y, hy, rfl⟩ := List.mem_map.1 hx; rw [← size_D]; exact hs y hy)
    rw [List.length_map] at this
    have := Nat.mul_le_mul_right 201 hl
    omega
  have h1 : strings_Join.f l (⟨#[47]⟩ : ByteArray) = some (mkB (joinL (l.map D))) := by
    unfold strings_Join.f
    have e : Lib.join (l.map (·.data.toList)) (⟨#[47]⟩ : ByteArray).data.toList = joinL (l.map D) := join_lib _
    rw [if_pos ⟨by omega, by rw [e]; omega⟩, e]
    rfl
  have hz : (mkB (joinL (l.map D))).size < 4294967281 := by rw [size_D]; show (joinL (l.map D)).length < _; omega
  have h3 : strings_Split.f (mkB (joinL (l.map D))) (⟨#[47]⟩ : ByteArray) = some (pieces (mkB (joinL (l.map D)))) := by
    unfold strings_Split.f
    rw [if_pos ⟨hz, rfl⟩]
  have hpl : (pieces (mkB (joinL (l.map D)))).length < 9000000000000 := by have := pieces_le _ hz; omega
  obtain ⟨K, hK⟩ := equal_eq (pieces (mkB (joinL (l.map D)))) l hpl
  refine ⟨K, fun k hk => ?_⟩
  have hK := hK k hk
  simp only [] at hK
  show path_Join.f k l = _
  unfold path_Join.f joinR
  have hd : D (mkB (joinL (l.map D))) = joinL (l.map D) := rfl
  rw [h1]
  simp only [Option.bind_some, check_eq hz, hd, h3, hK]
  cases hc : checkL (joinL (l.map D)) with
  | false => simp
  | true =>
    by_cases he : pieces (mkB (joinL (l.map D))) = l
    · simp [he]
    · simp [he]

theorem D_get (s : ByteArray) (j : Nat) (h : j < (D s).length) : s.data[j]! = (D s)[j] := by
  have h2 : j < s.data.size := by simpa [D] using h
  rw [getElem!_pos s.data j h2]
  simp [D]

/-- What lies ahead of the last slash, and what lies behind it. -/
theorem last_slash (s : ByteArray) : (Lib.lastIndexByte s 47 = -1 ∧ (47 : UInt8) ∉ D s) ∨
    ∃ p b, D s = p ++ 47 :: b ∧ (47 : UInt8) ∉ b ∧ Lib.lastIndexByte s 47 = (p.length : Int) := by
  have hsz : s.size = (D s).length := size_D s
  rcases Lib.lastIdx_spec s 47 s.size with ⟨h1, h2⟩ | ⟨i, hi, h1, h2, h3⟩
  · refine .inl ⟨h1, fun hm => ?_⟩
    obtain ⟨j, hj, e⟩ := List.getElem_of_mem hm
    refine h2 j (by omega) ?_
    rw [D_get s j hj, e]; rfl
  · refine .inr ⟨(D s).take i, (D s).drop (i + 1), ?_, fun hm => ?_, ?_⟩
    · have hi' : i < (D s).length := by omega
      have e : (D s)[i] = 47 := by
        rw [D_get s i hi'] at h2
        exact UInt8.toNat_inj.1 (by show _ = 47; omega)
      conv => lhs; rw [← List.take_append_drop i (D s), List.drop_eq_getElem_cons hi', e]
    · obtain ⟨j, hj, e⟩ := List.getElem_of_mem hm
      rw [List.length_drop] at hj
      rw [List.getElem_drop] at e
      refine h3 (i + 1 + j) (by omega) (by omega) ?_
      rw [D_get s _ (by omega), e]; rfl
    · rw [List.length_take, Nat.min_eq_left (by omega)]
      exact h1

theorem pcut_none {s : ByteArray} (hs : s.size < 4294967281) (hc : checkL (D s) = true) (hn : (47 : UInt8) ∉ D s) (hi : Lib.lastIndexByte s 47 = -1) : path_cut.f s = some (⟨#[]⟩, s) := by
  unfold path_cut.f
  rw [check_eq hs, hc]
  simp only [Option.bind_some, if_true]
  unfold strings_LastIndexByte.f
  rw [if_pos (by omega), hi]
  simp
theorem pcut_some {s : ByteArray} (hs : s.size < 4294967281) (hc : checkL (D s) = true) {p b : Bs} (hd : D s = p ++ 47 :: b) (hi : Lib.lastIndexByte s 47 = (p.length : Int)) : path_cut.f s = some (mkB p, mkB b) := by
  have hsz : s.size = p.length + 1 + b.length := by rw [size_D, hd]; simp; omega
  unfold path_cut.f
  rw [check_eq hs, hc]
  simp only [Option.bind_some, if_true]
  unfold strings_LastIndexByte.f
  rw [if_pos (by omega), hi]
  have hw : wrap64 ((p.length : Int) + 1) = ((p.length + 1 : Nat) : Int) := by rw [wrap_in (by omega) (by omega)]; omega
  simp only [Option.bind_some, hw]
  rw [if_pos (by omega), if_pos (by omega), if_pos (by omega), if_pos (by omega), if_pos (by omega)]
  congr 2
  · refine ba_ext ?_
    show D _ = D _
    rw [extract_D, hd]
    simp [D, mkB]
  · refine ba_ext ?_
    show D _ = D _
    rw [extract_D, hd]
    simp only [Int.toNat_natCast]
    rw [show p ++ 47 :: b = (p ++ [47]) ++ b by simp, List.drop_append_of_le_length (by simp), List.drop_of_length_le (by simp), List.nil_append, List.take_of_length_le (by omega)]
    rfl
end Go.Proofs.YtgijjkdcidhmdaaGreatDoor.Q
