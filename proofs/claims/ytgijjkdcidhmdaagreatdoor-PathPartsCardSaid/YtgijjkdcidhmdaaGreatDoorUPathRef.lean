/- The reference's Split, Join, Parent, Base answer as the program's do. -/
import Derived.Test.YtgijjkdcidhmdaaGreatDoorUPathJoin
set_option linter.unusedVariables false
namespace Go.Proofs.YtgijjkdcidhmdaaGreatDoor.PX
theorem joinL_snoc (a : List Bs) (x : Bs) (h : a ≠ []) : joinL (a ++ [x]) = joinL a ++ 47 :: x := by rw [join_app a [x] h (by simp)]; rfl
theorem parts_noslash {l : List Bs} (h : l.all partL = true) : ∀ x ∈ l, (47 : UInt8) ∉ x := fun x hx => part_noslash (List.all_eq_true.1 h x hx)
end Go.Proofs.YtgijjkdcidhmdaaGreatDoor.PX
namespace Go.Proofs.YtgijjkdcidhmdaaGreatDoor.Q
open Go.RowKit PX SU Go.Proofs.YtgijjkdcidhmdaaGreatDoorW.PrintWords

theorem rsplit_eq {s : ByteArray} (hs : s.size < 4294967281) : Ev (fun k => tributaryref03_Split.f k s) (if checkL (D s) then (pieces s, 0) else ([], 2)) := by
  obtain ⟨K1, h1⟩ := rcheck_eq hs
  obtain ⟨K2, h2⟩ := cut_eq hs
  refine ⟨K1 + K2, fun k hk => ?_⟩
  have h1 := h1 k (by omega)
  have h2 := h2 k (by omega)
  simp only [] at h1 h2
  show tributaryref03_Split.f k s = _
  unfold tributaryref03_Split.f
  rw [h1]
  cases checkL (D s) with
  | false => simp
  | true => simp [h2]

theorem rjoin_loop (l : List ByteArray) (m : Nat) (hm : ∀ x ∈ l, x.size ≤ 4294967281) (hl : l.length ≤ 1000) : ∀ (d i : Nat), l.length - i = d → i ≤ l.length →
    ∃ K, ∀ k, K ≤ k → tributaryref03_join.l0 k l (mkB (joinL ((l.take i).map D))) (i : Int) = some (mkB (joinL (l.map D))) := by
  have hb : ∀ i, (joinL ((l.take i).map D)).length ≤ 4294967282000 := by
    intro i
    have h1 := joinL_le 4294967281 ((l.take i).map D) (fun x hx => by obtain ⟨y, hy, rfl⟩ := List.mem_map.1 hx; rw [← size_D]; exact hm y (List.mem_of_mem_take hy))
    have h2 : ((l.take i).map D).length ≤ 1000 := by rw [List.length_map, List.length_take]; omega
    generalize ((l.take i).map D).length = q at h1 h2
    generalize (joinL ((l.take i).map D)).length = z at h1 ⊢
    omega
  intro d
  induction d with
  | zero =>
    intro i hd h1
    refine ⟨1, fun k hk => ?_⟩
    obtain ⟨k, rfl⟩ : ∃ m, k = m + 1 := ⟨k - 1, by omega⟩
    simp only [tributaryref03_join.l0]
    rw [if_neg (by omega), List.take_of_length_le (by omega)]
  | succ d ih =>
    intro i hd h1
    have hi : i < l.length := by omega
    have hw : wrap64 ((i : Int) + 1) = ((i + 1 : Nat) : Int) := by rw [wrap_in (by omega) (by omega)]; omega
    obtain ⟨K, hK⟩ := ih (i + 1) (by omega) (by omega)
    have hz := hb i
    have hx := hm l[i] (List.getElem_mem _)
    have hsz : (mkB (joinL ((l.take i).map D))).size = (joinL ((l.take i).map D)).length := by rw [size_D]; rfl
    have ht : l.take (i + 1) = l.take i ++ [l[i]] := by rw [List.take_append_getElem]
    refine ⟨K + 1, fun k hk => ?_⟩
    obtain ⟨k, rfl⟩ : ∃ m, k = m + 1 := ⟨k - 1, by omega⟩
    have hK := hK k (by omega)
    rw [ht, List.map_append] at hK
    simp only [tributaryref03_join.l0]
    rw [if_pos (by omega)]
    by_cases h0 : i = 0
    · rw [if_neg (by omega), if_pos (by omega), rd_at l i hi, if_pos (by rw [hsz]; omega), hw]
      have e : mkB (joinL ((l.take i).map D)) ++ l[i] = mkB (joinL ((l.take i).map D ++ [l[i]].map D)) := by
        refine ba_ext ?_
        show D _ = D _
        subst h0
        show (mkB _ ++ l[0]).data.toList = _
        rw [ByteArray.data_append]
        simp [joinL, mkB]
      rw [e]
      exact hK
    · have hne : (l.take i).map D ≠ [] := by
        intro h
        rw [List.map_eq_nil_iff] at h
        have := congrArg List.length h
        rw [List.length_take, List.length_nil] at this
        omega
      have g1 : (mkB (joinL ((l.take i).map D))).size + 1 ≤ 9223372036854775807 := by rw [hsz]; omega
      have g2 : (mkB (joinL ((l.take i).map D)) ++ (⟨#[47]⟩ : ByteArray)).size + l[i].size ≤ 9223372036854775807 := by
        rw [ByteArray.size_append, hsz, show (⟨#[47]⟩ : ByteArray).size = 1 from rfl]
        omega
      rw [if_pos (by omega), if_pos g1, if_pos (by omega), rd_at l i hi, if_pos g2, hw]
      have e : (mkB (joinL ((l.take i).map D)) ++ (⟨#[47]⟩ : ByteArray)) ++ l[i] = mkB (joinL ((l.take i).map D ++ [l[i]].map D)) := by
        refine ba_ext ?_
        show D _ = D _
        show ((mkB _ ++ (⟨#[47]⟩ : ByteArray)) ++ l[i]).data.toList = joinL _
        rw [List.map_cons, List.map_nil, joinL_snoc _ _ hne, ByteArray.data_append, ByteArray.data_append]
        simp [mkB]
      rw [e]
      exact hK
theorem rjoinp_eq (l : List ByteArray) (hm : ∀ x ∈ l, x.size ≤ 4294967281) (hl : l.length ≤ 1000) : Ev (fun k => tributaryref03_join.f k l) (mkB (joinL (l.map D))) := by
  obtain ⟨K, hK⟩ := rjoin_loop l 0 hm hl (l.length - 0) 0 rfl (Nat.zero_le _)
  exact ⟨K, fun k hk => hK k hk⟩

theorem rJoin_loop (l : List ByteArray) (hm : ∀ x ∈ l, x.size ≤ 200) (hl : l.length ≤ 1000) : ∀ (d i : Nat), l.length - i = d → i ≤ l.length →
    ∃ K, ∀ k, K ≤ k → tributaryref03_Join.l0 k l (i : Int) = some (if (l.drop i).all (fun x => partL (D x)) && decide (1 ≤ l.length) && decide (l.length ≤ 6) then (mkB (joinL (l.map D)), 0) else (⟨#[]⟩, 2)) := by
  intro d
  induction d with
  | zero =>
    intro i hd h1
    obtain ⟨K, hK⟩ := rjoinp_eq l (fun x hx => by have := hm x hx; omega) hl
    refine ⟨K + 1, fun k hk => ?_⟩
    obtain ⟨k, rfl⟩ : ∃ m, k = m + 1 := ⟨k - 1, by omega⟩
    have hK := hK k (by omega)
    simp only [] at hK
    simp only [tributaryref03_Join.l0]
    rw [if_neg (by omega), show l.drop i = [] from List.drop_of_length_le (by omega)]
    by_cases h2 : l.length < 1
    · rw [if_pos (by omega), decide_eq_false (by omega)]; simp
    · rw [if_neg (by omega), decide_eq_true (by omega)]
      by_cases h3 : 6 < l.length
      · rw [if_pos (by omega), decide_eq_false (by omega)]; simp
      · rw [if_neg (by omega), decide_eq_true (by omega), hK]; simp
  | succ d ih =>
    intro i hd h1
    have hi : i < l.length := by omega
    have hw : wrap64 ((i : Int) + 1) = ((i + 1 : Nat) : Int) := by rw [wrap_in (by omega) (by omega)]; omega
    obtain ⟨K1, hK1⟩ := ih (i + 1) (by omega) (by omega)
    obtain ⟨K2, hK2⟩ := part_eq (s := l[i]) (by have := hm l[i] (List.getElem_mem _); omega)
    refine ⟨K1 + K2 + 1, fun k hk => ?_⟩
    obtain ⟨k, rfl⟩ : ∃ m, k = m + 1 := ⟨k - 1, by omega⟩
    have hK1 := hK1 k (by omega)
    have hK2 := hK2 k (by omega)
    simp only [] at hK2
    simp only [tributaryref03_Join.l0]
    rw [if_pos (by omega), if_pos (by omega), rd_at l i hi, hK2, List.drop_eq_getElem_cons hi, List.all_cons]
    simp only [Option.bind_some]
    cases hp : partL (D l[i]) with
    | false => simp
    | true => simp only [if_true, hw, hK1, Bool.true_and]

theorem joinR_ref (l : List ByteArray) : (if l.all (fun x => partL (D x)) && decide (1 ≤ l.length) && decide (l.length ≤ 6) then (mkB (joinL (l.map D)), (0 : Int)) else (⟨#[]⟩, 2)) = joinR l := by
  unfold joinR
  have key : (l.all (fun x => partL (D x)) && decide (1 ≤ l.length) && decide (l.length ≤ 6)) = (checkL (joinL (l.map D)) && decide (pieces (mkB (joinL (l.map D))) = l)) := by
    rw [Bool.eq_iff_iff]
    simp only [Bool.and_eq_true, decide_eq_true_eq]
    constructor
    · rintro ⟨⟨h1, h2⟩, h3⟩
      have ha : (l.map D).all partL = true := by rw [List.all_map]; exact h1
      have hne : l.map D ≠ [] := by intro h; rw [List.map_eq_nil_iff] at h; subst h; simp at h2
      have hsp := split_join (l.map D) hne (parts_noslash ha)
      refine ⟨?_, ?_⟩
      · unfold checkL
        rw [hsp]
        simp only [Bool.and_eq_true, decide_eq_true_eq]
        exact ⟨by rw [List.length_map]; exact h3, ha⟩
      · have : (pieces (mkB (joinL (l.map D)))).map D = l.map D := by rw [pieces_D]; exact hsp
        exact List.map_inj_right (fun a b h => ba_ext h) |>.1 this
    · rintro ⟨h1, h2⟩
      have hm : l.map D = splitL (joinL (l.map D)) := by
        conv => lhs; rw [← h2]
        rw [pieces_D]
        rfl
      unfold checkL at h1
      rw [← hm] at h1
      simp only [Bool.and_eq_true, decide_eq_true_eq, List.length_map, List.all_map] at h1
      refine ⟨⟨h1.2, ?_⟩, h1.1⟩
      have := splitL_ne (joinL (l.map D))
      rw [← hm] at this
      cases l with
      | nil => exact absurd rfl this
      | cons x y => simp
  rw [key]

theorem rJoin_eq {l : List ByteArray} (hm : ∀ x ∈ l, x.size ≤ 200) (hl : l.length ≤ 1000) : Ev (fun k => tributaryref03_Join.f k l) (joinR l) := by
  obtain ⟨K, hK⟩ := rJoin_loop l hm hl (l.length - 0) 0 rfl (Nat.zero_le _)
  refine ⟨K, fun k hk => ?_⟩
  have := hK k hk
  rw [List.drop_zero, joinR_ref] at this
  exact this

/-- What Parent and Base answer. -/
theorem parent_base {s : ByteArray} (hs : s.size < 4294967281) : ∃ pb : (ByteArray × Bool) × ByteArray, path_Parent.f s = some pb.1 ∧ path_Base.f s = some pb.2 ∧
    Ev (fun k => tributaryref03_Parent.f k s) pb.1 ∧ Ev (fun k => tributaryref03_Base.f k s) pb.2 := by
  obtain ⟨K1, h1⟩ := rsplit_eq hs
  cases hc : checkL (D s) with
  | false =>
    have hcut : path_cut.f s = some (⟨#[]⟩, ⟨#[]⟩) := by unfold path_cut.f; rw [check_eq hs, hc]; rfl
    refine ⟨((⟨#[]⟩, false), ⟨#[]⟩), ?_, ?_, ⟨K1, fun k hk => ?_⟩, ⟨K1, fun k hk => ?_⟩⟩
    · unfold path_Parent.f; rw [hcut]
      have e2 : ((⟨#[]⟩ : ByteArray).toList != ([] : List UInt8)) = false := by rw [toList_D]; rfl
      simp only [Option.bind_some, e2]
    · unfold path_Base.f; rw [hcut]; rfl
    · have h1 := h1 k hk
      simp only [] at h1
      show tributaryref03_Parent.f k s = _
      unfold tributaryref03_Parent.f
      rw [h1, hc]; simp
    · have h1 := h1 k hk
      simp only [] at h1
      show tributaryref03_Base.f k s = _
      unfold tributaryref03_Base.f
      rw [h1, hc]; simp
  | true =>
    have hp6 : (pieces s).length ≤ 6 := by
      have e : (pieces s).length = (splitL (D s)).length := by rw [← pieces_D, List.length_map]
      rw [e]
      unfold checkL at hc
      simp only [Bool.and_eq_true, decide_eq_true_eq] at hc
      exact hc.1
    rcases last_slash s with ⟨hi, hn⟩ | ⟨p, b, hd, hnb, hi⟩
    · have hcut := pcut_none hs hc hn hi
      have hp1 : pieces s = [s] := by
        have : (pieces s).map D = [s].map D := by rw [pieces_D, split_one _ hn]; rfl
        exact List.map_inj_right (fun a b h => ba_ext h) |>.1 this
      have e0 : wrap64 (((1 : Nat) : Int) - 1) = 0 := by unfold wrap64; omega
      refine ⟨((⟨#[]⟩, false), s), ?_, ?_, ⟨K1, fun k hk => ?_⟩, ⟨K1, fun k hk => ?_⟩⟩
      · unfold path_Parent.f; rw [hcut]
        have e2 : ((⟨#[]⟩ : ByteArray).toList != ([] : List UInt8)) = false := by rw [toList_D]; rfl
        simp only [Option.bind_some, e2]
      · unfold path_Base.f; rw [hcut]; rfl
      · have h1 := h1 k hk
        simp only [] at h1
        show tributaryref03_Parent.f k s = _
        unfold tributaryref03_Parent.f
        rw [h1, hc, hp1]; simp
      · have h1 := h1 k hk
        simp only [] at h1
        show tributaryref03_Base.f k s = _
        unfold tributaryref03_Base.f
        rw [h1, hc, hp1]
        simp only [if_true, Option.bind_some, List.length_singleton, e0]
        rw [if_pos (by omega), if_pos (by omega)]
        rfl
    · have hcut := pcut_some hs hc hd hi
      have hck : checkL (p ++ 47 :: b) = true := by rw [← hd]; exact hc
      obtain ⟨hcp, hpn⟩ := check_head hnb hck
      have hpm : pieces s = (splitL p ++ [b]).map mkB := by
        have : pieces s = (splitL (D s)).map mkB := rfl
        rw [this, hd, split_last p b hnb]
      have hsl : 1 ≤ (splitL p).length := by
        cases h : splitL p with
        | nil => exact absurd h (splitL_ne p)
        | cons x y => simp
      have hlen : (pieces s).length = (splitL p).length + 1 := by rw [hpm]; simp
      have e0 : wrap64 (((pieces s).length : Int) - 1) = (((splitL p).length : Nat) : Int) := by rw [hlen, wrap_in (by omega) (by omega)]; omega
      have e1 : rdOf ByteArray.empty (pieces s) (((splitL p).length : Nat) : Int) = mkB b := by
        rw [rd_at _ _ (by omega)]
        simp only [hpm, List.map_append, List.map_cons, List.map_nil]
        rw [List.getElem_append_right (by simp)]
        simp
      have e2 : ((mkB p).toList != ([] : List UInt8)) = true := by
        rw [toList_D]
        show (p != []) = true
        simpa using hpn
      have e4 : (pieces s).take (splitL p).length = (splitL p).map mkB := by rw [hpm, List.map_append, List.take_append_of_le_length (by simp), List.take_of_length_le (by simp)]
      have hz : ∀ x ∈ (splitL p).map mkB, x.size ≤ 4294967281 := fun x hx => by
        have hx2 : x ∈ pieces s := by rw [hpm, List.map_append]; exact List.mem_append_left _ hx
        have := pieces_size hx2
        omega
      obtain ⟨K2, h2⟩ := rjoinp_eq ((splitL p).map mkB) hz (by simp; omega)
      have e5 : mkB (joinL (((splitL p).map mkB).map D)) = mkB p := by
        have : ((splitL p).map mkB).map D = splitL p := by
          rw [List.map_map]
          have : (D ∘ mkB) = id := rfl
          rw [this, List.map_id]
        rw [this, join_split]
      refine ⟨((mkB p, true), mkB b), ?_, ?_, ⟨K1 + K2, fun k hk => ?_⟩, ⟨K1, fun k hk => ?_⟩⟩
      · unfold path_Parent.f; rw [hcut]; simp only [Option.bind_some, e2]
      · unfold path_Base.f; rw [hcut]; rfl
      · have h1 := h1 k (by omega)
        have h2 := h2 k (by omega)
        simp only [] at h1 h2
        rw [e5] at h2
        show tributaryref03_Parent.f k s = _
        unfold tributaryref03_Parent.f
        rw [h1, hc]
        simp only [if_true, Option.bind_some, e0, Int.toNat_natCast, e4, h2]
        rw [if_neg (by omega), if_pos (by omega), if_pos (by omega)]
      · have h1 := h1 k (by omega)
        simp only [] at h1
        show tributaryref03_Base.f k s = _
        unfold tributaryref03_Base.f
        rw [h1, hc]
        simp only [if_true, Option.bind_some, e0, e1]
        rw [if_pos (by omega), if_pos (by omega)]
end Go.Proofs.YtgijjkdcidhmdaaGreatDoor.Q
