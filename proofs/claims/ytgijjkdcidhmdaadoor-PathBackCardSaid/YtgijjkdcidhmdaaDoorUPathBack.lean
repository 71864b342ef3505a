/- PathBack: the plain law, and the law's walk. -/
import Derived.Test.YtgijjkdcidhmdaaDoorUPathJoin
import Derived.Test.YtgijjkdcidhmdaaDoorUPathKnown
import Derived.Test.YtgijjkdcidhmdaaDoorPathBackW
set_option linter.unusedVariables false
namespace Go.Proofs.YtgijjkdcidhmdaaDoor.Q
open Go.RowKit PX SU Go.Proofs.YtgijjkdcidhmdaaDoorW.PrintWords

theorem known_ev : ∀ k, 40 ≤ k → tributarylaw03_PathKnown.f k = some true := by
  intro k hk
  have : ∀ d, tributarylaw03_PathKnown.f (40 + d) = some true := by
    intro d; induction d with
    | zero => exact pathKnown_true
    | succ d ih => exact tributarylaw03_PathKnown.mono (40 + d) _ ih
  have := this (k - 40)
  rwa [show 40 + (k - 40) = k by omega] at this

theorem back_j2 (l : List ByteArray) (hs : ∀ x ∈ l, x.size ≤ 200) (hl : l.length ≤ 30) : ∃ K, ∀ k, K ≤ k → tributarylaw03_PathBack.j2 k l true = some true := by
  obtain ⟨K1, h1⟩ := pjoin_eq hs (by omega)
  obtain ⟨K2, h2⟩ := same_eq (pieces (joinR l).1) l (by
    unfold joinR
    split
    · rename_i h
      simp only [Bool.and_eq_true, decide_eq_true_eq] at h
      rw [h.2]; omega
    · have := pieces_le ⟨#[]⟩ (by decide); simp only []; omega)
  refine ⟨K1 + K2 + 1, fun k hk => ?_⟩
  obtain ⟨k, rfl⟩ : ∃ m, k = m + 1 := ⟨k - 1, by omega⟩
  have h1 := h1 k (by omega)
  have h2 := h2 k (by omega)
  simp only [] at h1 h2
  simp only [tributarylaw03_PathBack.j2]
  rw [h1]
  simp only [Option.bind_some]
  unfold joinR at h2 ⊢
  cases hb : (checkL (joinL (l.map D)) && decide (pieces (mkB (joinL (l.map D))) = l)) with
  | false => simp
  | true =>
    rw [hb] at h2
    simp only [if_true] at h2 ⊢
    simp only [Bool.and_eq_true, decide_eq_true_eq] at hb
    have hz : (mkB (joinL (l.map D))).size < 4294967281 := by
      have := joinL_le 200 (l.map D) (fun x hx => by obtain ⟨y, hy, rfl⟩ := List.mem_map.1 hx; rw [← size_D]; exact hs y hy)
      rw [List.length_map] at this
      have := Nat.mul_le_mul_right 201 hl
      rw [size_D]; show (joinL (l.map D)).length < _
      omega
    rw [hb.2] at h2
    rw [psplit_eq hz, show checkL (D (mkB (joinL (l.map D)))) = true from hb.1]
    simp only [Option.bind_some, if_true, hb.2, h2, decide_true]

theorem pieces_map (s : ByteArray) : (pieces s).map D = splitL (D s) := pieces_D s
theorem joinR_pieces {s : ByteArray} (h : checkL (D s) = true) : joinR (pieces s) = (s, 0) := by
  unfold joinR
  have e : joinL ((pieces s).map D) = D s := by rw [pieces_D, join_split]
  have e2 : mkB (D s) = s := ba_ext rfl
  rw [e, e2, h, decide_eq_true rfl]
  rfl

theorem back_j1 {s : ByteArray} (l : List ByteArray) (hz : s.size ≤ 200) (hc : checkL (D s) = true) (hj2 : ∃ K, ∀ k, K ≤ k → tributarylaw03_PathBack.j2 k l true = some true) :
    ∃ K, ∀ k, K ≤ k → tributarylaw03_PathBack.j1 k s l true (pieces s) 0 false = some true := by
  have hs : s.size < 4294967281 := by omega
  obtain ⟨K1, h1⟩ := hj2
  have hps : ∀ x ∈ pieces s, x.size ≤ 200 := fun x hx => by have := pieces_size hx; omega
  have hp6 : (pieces s).length ≤ 6 := by
    have e : (pieces s).length = (splitL (D s)).length := by rw [← pieces_D, List.length_map]
    rw [e]
    unfold checkL at hc
    simp only [Bool.and_eq_true, decide_eq_true_eq] at hc
    exact hc.1
  obtain ⟨K2, h2⟩ := pjoin_eq hps (by omega)
  rcases last_slash s with ⟨hi, hn⟩ | ⟨p, b, hd, hnb, hi⟩
  · have hcut := pcut_none hs hc hn hi
    have hp1 : pieces s = [s] := by
      have : (pieces s).map D = [s].map D := by rw [pieces_D, split_one _ hn]; rfl
      exact List.map_inj_right (fun a b h => ba_ext h) |>.1 this
    refine ⟨K1 + K2 + 1, fun k hk => ?_⟩
    obtain ⟨k, rfl⟩ : ∃ m, k = m + 1 := ⟨k - 1, by omega⟩
    have h1 := h1 k (by omega)
    have h2 := h2 k (by omega)
    simp only [] at h2
    rw [joinR_pieces hc] at h2
    simp only [tributarylaw03_PathBack.j1, Bool.false_eq_true, if_false, if_true]
    rw [h2]
    unfold path_Parent.f path_Base.f
    rw [hcut, hp1]
    have e0 : wrap64 (((1 : Nat) : Int) - 1) = 0 := by unfold wrap64; omega
    simp only [Option.bind_some, List.length_singleton, e0, if_true]
    rw [if_neg (by omega), if_pos (by omega), if_pos (by omega)]
    have e1 : rdOf ByteArray.empty [s] 0 = s := rfl
    have e2 : ((⟨#[]⟩ : ByteArray).toList != ([] : List UInt8)) = false := by rw [toList_D]; rfl
    have e3 : decide (((1 : Nat) : Int) > 1) = false := decide_eq_false (by omega)
    rw [e1, if_pos rfl, e2, e3]
    exact h1
  · have hcut := pcut_some hs hc hd hi
    have hck : checkL (p ++ 47 :: b) = true := by rw [← hd]; exact hc
    obtain ⟨hcp, hpn⟩ := check_head hnb hck
    have hpm : pieces s = (splitL p ++ [b]).map mkB := by
      have : pieces s = (splitL (D s)).map mkB := rfl
      rw [this, hd, split_last p b hnb]
    have hsz : s.size = p.length + 1 + b.length := by rw [size_D, hd]; simp; omega
    have hpz : (mkB p).size = p.length := by rw [size_D]; rfl
    have hbz : (mkB b).size = b.length := by rw [size_D]; rfl
    have hsl : 1 ≤ (splitL p).length := by
      cases h : splitL p with
      | nil => exact absurd h (splitL_ne p)
      | cons x y => simp
    have hlen : (pieces s).length = (splitL p).length + 1 := by rw [hpm]; simp
    obtain ⟨K3, h3⟩ := under_eq (a := mkB p) (b := s) (by omega) hs
    obtain ⟨K4, h4⟩ := under_eq (a := s) (b := mkB p) hs (by omega)
    have u1 : underL (D (mkB p)) (D s) = true := by
      show underL p (D s) = true
      unfold underL
      rw [hcp, hc, hd]
      simp only [Bool.true_and]
      exact List.isPrefixOf_iff_prefix.2 ⟨b, by simp⟩
    have u2 : underL (D s) (D (mkB p)) = false := by
      show underL (D s) p = false
      unfold underL
      have : (D s ++ [47]).isPrefixOf p = false := by
        cases h : (D s ++ [47]).isPrefixOf p with
        | false => rfl
        | true =>
          have := (List.isPrefixOf_iff_prefix.1 h).length_le
          rw [hd] at this
          simp at this
          omega
      rw [this, Bool.and_false]
    refine ⟨K1 + K2 + K3 + K4 + 1, fun k hk => ?_⟩
    obtain ⟨k, rfl⟩ : ∃ m, k = m + 1 := ⟨k - 1, by omega⟩
    have h1 := h1 k (by omega)
    have h2 := h2 k (by omega)
    have h3 := h3 k (by omega)
    have h4 := h4 k (by omega)
    simp only [] at h2 h3 h4
    rw [joinR_pieces hc] at h2
    rw [u1] at h3
    rw [u2] at h4
    simp only [tributarylaw03_PathBack.j1, Bool.false_eq_true, if_false, if_true]
    rw [h2]
    unfold path_Parent.f path_Base.f
    rw [hcut]
    have e0 : wrap64 (((pieces s).length : Int) - 1) = (((splitL p).length : Nat) : Int) := by rw [hlen, wrap_in (by omega) (by omega)]; omega
    have e1 : rdOf ByteArray.empty (pieces s) (((splitL p).length : Nat) : Int) = mkB b := by
      rw [rd_at _ _ (by omega)]
      simp only [hpm, List.map_append, List.map_cons, List.map_nil]
      rw [List.getElem_append_right (by simp)]
      simp
    have e2 : ((mkB p).toList != ([] : List UInt8)) = true := by
      rw [toList_D]
      show (p != []) = true
      simpa using hpn
    have e3 : ((mkB p ++ (⟨#[47]⟩ : ByteArray)) ++ mkB b).toList = s.toList := by
      rw [toList_D, toList_D, hd]
      show ((mkB p ++ (⟨#[47]⟩ : ByteArray)) ++ mkB b).data.toList = _
      rw [ByteArray.data_append, ByteArray.data_append]
      simp [mkB]
    simp only [Option.bind_some, e0, e1, e2, if_true]
    rw [if_neg (by omega), if_pos (by omega), if_pos (by omega), if_neg (by simp; omega), if_pos (by rw [hpz]; omega), if_pos (by rw [ByteArray.size_append, hpz, hbz]; show p.length + 1 + b.length ≤ _; omega), if_pos e3]
    simp only [h3, h4, Option.bind_some, if_true, Bool.false_eq_true, if_false]
    exact h1

theorem pathBack_true (s : ByteArray) (l : List ByteArray) (hlen : l.length ≤ 8796093022000) : ∃ k, tributarylaw03_PathBack.f k s l = some true := by
  by_cases hz : (s.size : Int) > 200
  · refine ⟨40, ?_⟩
    unfold tributarylaw03_PathBack.f
    rw [known_ev 40 (Nat.le_refl _)]
    simp only [Option.bind_some, if_pos hz]
    rfl
  · obtain ⟨K0, h0⟩ := long_eq l (by omega)
    cases hl : longL l with
    | true =>
      refine ⟨K0 + 40, ?_⟩
      have h0 := h0 (K0 + 40) (by omega)
      simp only [] at h0
      rw [hl] at h0
      unfold tributarylaw03_PathBack.f
      rw [known_ev _ (by omega)]
      simp only [Option.bind_some, if_neg hz, h0]
      rfl
    | false =>
      obtain ⟨hs, hn⟩ := long_no hl
      obtain ⟨K2, h2⟩ := back_j2 l hs hn
      have hss : s.size < 4294967281 := by omega
      cases hc : checkL (D s) with
      | true =>
        obtain ⟨K1, h1⟩ := back_j1 l (by omega) hc ⟨K2, h2⟩
        refine ⟨K0 + K1 + 40 + 1, ?_⟩
        have h0 := h0 (K0 + K1 + 40 + 1) (by omega)
        have h1 := h1 (K0 + K1 + 40) (by omega)
        simp only [] at h0
        rw [hl] at h0
        unfold tributarylaw03_PathBack.f
        rw [known_ev _ (by omega)]
        simp only [Option.bind_some, if_neg hz, h0, tributarylaw03_PathBack.j0, Bool.false_eq_true, if_false, psplit_eq hss, check_eq hss, hc, if_true]
        exact h1
      | false =>
        refine ⟨K0 + K2 + 40 + 1 + 1, ?_⟩
        have h0 := h0 (K0 + K2 + 40 + 1 + 1) (by omega)
        have h2 := h2 (K0 + K2 + 40) (by omega)
        simp only [] at h0
        rw [hl] at h0
        unfold tributarylaw03_PathBack.f
        rw [known_ev _ (by omega)]
        simp only [Option.bind_some, if_neg hz, h0, tributarylaw03_PathBack.j0, Bool.false_eq_true, if_false, psplit_eq hss, check_eq hss, hc, if_true, tributarylaw03_PathBack.j1, List.length_nil]
        exact h2

theorem walk_PathBack (s : ByteArray) (a : Option Addr) (c : Nat) (l : List ByteArray) (w : World) (hs : s.size ≤ 140737488351232) (h : Go.Proofs.YtgijjkdcidhmdaaDoor.StrsArg w a c l) :
    Calls Tryd.prog 8 #[.string s, .slice a l.length c] w fun e w' => e = .returned (.bool true) ∧ Below w.heap.size w w' := by
  obtain ⟨k, hk⟩ := pathBack_true s l h.len
  exact tributarylaw03_PathBack.calls k s a c l true w h.reads h.cap hk
end Go.Proofs.YtgijjkdcidhmdaaDoor.Q
