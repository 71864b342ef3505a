/- The evaluator, part 6: the contract of slices.Sorted at the keys of a map, out of the library's proofs. No program in sight; no conditions. -/
import Derived.Test.YtggnokfchfipaaaGreatDoorEv5
import Derived.Shelf.SlIter.Nil
import Derived.Shelf.SlIterI.Nil
set_option linter.unusedVariables false
set_option linter.unusedSimpArgs false
namespace Go.Proofs.YtggnokfchfipaaaGreatDoor.Ev
open Go.Proofs Go.RowKit Go.Maps Go.Sort Go.Shelf Go.MapKept Go.ChangeMaps
open Go.WideElems (Fit rd rg rg_of rd_mk)
/-! ### slices.Sorted at the keys of a map: the contract, out of the library's proofs -/
def RU : Value → Option (DataW Unit × List MemPlace) := fun _ => some (.lit (.bool true), [])
/-- A map of which all that matters is its keys. -/
theorem ownsMap_keys {α : Type} {P : Program} {k : TypeId} {enc : α → Value} {un : Lit → α} (hinj : ∀ a b, enc a = enc b → a = b)
    {w : World} {mb : Nat} {es : Array MapEntry} {clock : Nat} {ks : List α} (hw : w.heap[mb]? = some (.map es clock)) (hn : es.size ≤ 1000) (hst : Stamped es clock) (he : es.toList.map (·.key) = ks.map enc)
    (hkey : ∀ x ∈ ks, ∃ kl, keyOf P k (enc x) = some kl ∧ un kl = x) :
    ∃ l : List (Lit × DataW Unit), w.ownsMap P k RU mb es.size (.map l) ∧ l.length = es.size ∧ (l.map fun p => un p.1).Perm ks := by
  have hread : ∀ x ∈ es.toList, ∃ s ∈ ks, ∃ kl, enc s = x.key ∧ un kl = s ∧ rd P k RU x = some (kl, .lit (.bool true)) := by
    intro x hx
    have : x.key ∈ es.toList.map (·.key) := List.mem_map_of_mem hx
    rw [he] at this
    obtain ⟨s, hs, e⟩ := List.mem_map.1 this
    obtain ⟨kl, h1, h2⟩ := hkey s hs
    refine ⟨s, hs, kl, e, h2, ?_⟩
    obtain ⟨key, val, born⟩ := x
    simp only at e
    subst e
    exact rd_mk (R := RU) (yv := (.lit (.bool true), [])) h1 rfl
  refine ⟨(es.toList.map (rg P k RU)).foldr DataW.insert [], ⟨es, clock, hw, ⟨Nat.le_trans hn (by decide), hst, fun x hx => ?_⟩, Nat.le_refl _, rfl⟩, ?_, ?_⟩
  · obtain ⟨s, _, kl, _, _, h⟩ := hread x hx; exact ⟨_, h⟩
  · rw [(Go.WideShapes.sorted_perm _).length_eq, List.length_map, Array.length_toList]
  · refine ((Go.WideShapes.sorted_perm _).map fun p => un p.1).trans ?_
    rw [List.map_map]
    have : (es.toList.map ((fun p => un p.1) ∘ rg P k RU)).map enc = ks.map enc := by
      rw [← he, List.map_map]
      refine List.map_congr_left fun x hx => ?_
      obtain ⟨s, _, kl, e1, e2, h⟩ := hread x hx
      show enc (un (rg P k RU x).1) = x.key
      rw [rg_of h]
      simp only [e2, e1]
    have e : es.toList.map ((fun p => un p.1) ∘ rg P k RU) = ks := by
      revert this
      generalize es.toList.map ((fun p => un p.1) ∘ rg P k RU) = a
      intro this
      induction a generalizing ks with
      | nil => cases ks with
        | nil => rfl
        | cons _ _ => cases this
      | cons x a ih => cases ks with
        | nil => cases this
        | cons y ks =>
          simp only [List.map_cons, List.cons.injEq] at this
          rw [hinj _ _ this.1]
          congr 1
          exact (List.map_inj_right (f := enc) (fun a b h => hinj a b h)).1 this.2
    rw [e]
theorem leU_antisymm : ∀ a b : List UInt8, a ≤ b → b ≤ a → a = b := fun a b h1 h2 => List.le_antisymm h1 h2
theorem sorted_le (l : List (List UInt8)) : (l.mergeSort fun x y => decide (x ≤ y)).Pairwise (· ≤ ·) := by
  have := List.pairwise_mergeSort (le := fun x y : List UInt8 => decide (x ≤ y)) (fun a b c h1 h2 => by simp only [decide_eq_true_eq] at *; exact List.le_trans h1 h2) (fun a b => by simp only [Bool.or_eq_true, decide_eq_true_eq]; exact List.le_total a b) l
  exact this.imp fun h => by simpa using h
theorem sorted_leI (l : List Int) : (l.mergeSort fun x y => decide (x ≤ y)).Pairwise (· ≤ ·) := by
  have := List.pairwise_mergeSort (le := fun x y : Int => decide (x ≤ y)) (fun a b c h1 h2 => by simp only [decide_eq_true_eq] at *; omega) (fun a b => by simp only [Bool.or_eq_true, decide_eq_true_eq]; omega) l
  exact this.imp fun h => by simpa using h
variable {P : Program}
theorem sorts_str {ρk ρs : Ren} (Lk : SlLaysZ.n10 P ρk) (Ls : SlLaysZ.n6 P ρs) (hsort : AnyZ.SortsIn P ρs Fence.wide 4) (e9 : ∀ args w, (callFunc (ρs.f 9) args).run P w = .ok (.enter (ρs.f 9) args) w)
    (eg : ∀ args w, (callFunc (ρk.f 10) args).run P w = .ok (.enter (ρk.f 10) args) w) : SortsKeys P (ρs.f 6) (ρk.f 10) encS (fun a b : List UInt8 => a ≤ b) okS where
  anti := leU_antisymm
  inj a b h := encStr_inj h
  enter := Ls.f6.enters rfl
  calls w bm mb es clock ks hbm hcell hw hn hst he hok hne := by
    obtain ⟨l, hown, hlen, hperm⟩ := ownsMap_keys (P := P) (k := ρk.t 26) (enc := encStr) (un := Go.strOf) (fun a b h => encStr_inj h) hw hn hst he (fun x hx => by
      have hx1 : x.length ≤ 1000 := ble_true.1 (List.all_eq_true.1 hok x hx)
      refine ⟨.string x, ?_, rfl⟩
      have h1 : x.length ≤ maxLen := Nat.le_trans hx1 (by decide)
      simp [keyOf, Lk.t26, mapKey, encStr, ByteArray.size, h1])
    have hseq := AnyZ.keys_gives (ρ := ρk) Lk Fence.wide 2 trivial rfl (by omega) bm mb es.size (.map l) w hbm hcell hown
    have hS := AnyZ.sorted_in Ls Fence.wide 5 trivial trivial trivial trivial rfl (by omega) hsort e9 (ρk.f 10) #[.pointer (some ⟨bm, 0, none⟩)] trivial eg _ _ (by
        show l.length ≤ maxLen
        rw [hlen]; exact Nat.le_trans hn (by decide)) (by show l.length * 16 ≤ _; rw [hlen]; omega) w hseq
    refine callsIn_wide.2 (callsIn_wide.1 (hS.mono ?_))
    rintro e w1 ⟨v, ss, rfl, hp, hrow, hnil, hb⟩
    refine ⟨v, _, ss.mergeSort fun x y => decide (x ≤ y), rfl, (List.mergeSort_perm _ _).trans (hp.trans hperm), sorted_le _, by rw [List.length_mergeSort]; exact hrow, ?_, hb⟩
    rw [hnil]
    constructor
    · intro h; subst h; simp
    · intro h
      have := List.length_mergeSort (le := fun x y : List UInt8 => decide (x ≤ y)) ss
      rw [h] at this
      exact List.length_eq_zero_iff.1 this.symm
theorem sorts_int {ρk ρs : Ren} (Lk : SlLaysZI.n10 P ρk) (Ls : SlLaysZI.n6 P ρs) (hsort : AnyZI.SortsIn P ρs Fence.wide 4) (e9 : ∀ args w, (callFunc (ρs.f 9) args).run P w = .ok (.enter (ρs.f 9) args) w)
    (eg : ∀ args w, (callFunc (ρk.f 10) args).run P w = .ok (.enter (ρk.f 10) args) w) : SortsKeys P (ρs.f 6) (ρk.f 10) encI (fun a b : Int => a ≤ b) okI where
  anti a b h1 h2 := by omega
  inj a b h := encZ_inj h
  enter := Ls.f6.enters rfl
  calls w bm mb es clock ks hbm hcell hw hn hst he hok hne := by
    obtain ⟨l, hown, hlen, hperm⟩ := ownsMap_keys (P := P) (k := ρk.t 26) (enc := encZ) (un := Go.intOf) (fun a b h => encZ_inj h) hw hn hst he (fun x hx => by
      have hx1 := okI_range (List.all_eq_true.1 hok x hx)
      refine ⟨.int .i64 x, ?_, rfl⟩
      have h1 : (Lit.int .i64 x).wf = true := by
        simp only [Lit.wf, Bool.and_eq_true, decide_eq_true_eq]
        have e1 : IntKind.i64.max = 9223372036854775807 := by rfl
        have e2 : IntKind.i64.min = -9223372036854775808 := by rfl
        rw [e1, e2]; exact hx1
      simp [keyOf, Lk.t26, mapKey, encZ, h1])
    have hseq := AnyZI.keys_gives (ρ := ρk) Lk Fence.wide 2 trivial rfl (by omega) bm mb es.size (.map l) w hbm hcell hown
    have hS := AnyZI.sorted_in Ls Fence.wide 5 trivial trivial trivial trivial rfl (by omega) hsort e9 (ρk.f 10) #[.pointer (some ⟨bm, 0, none⟩)] trivial eg _ _ (by
        show l.length ≤ maxLen
        rw [hlen]; exact Nat.le_trans hn (by decide)) (by show l.length * 8 ≤ _; rw [hlen]; omega) w hseq
    refine callsIn_wide.2 (callsIn_wide.1 (hS.mono ?_))
    rintro e w1 ⟨v, ss, rfl, hp, hrow, hnil, hb⟩
    refine ⟨v, _, ss.mergeSort fun x y => decide (x ≤ y), rfl, (List.mergeSort_perm _ _).trans (hp.trans hperm), sorted_leI _, by rw [List.length_mergeSort]; exact hrow, ?_, hb⟩
    rw [hnil]
    constructor
    · intro h; subst h; simp
    · intro h
      have := List.length_mergeSort (le := fun x y : Int => decide (x ≤ y)) ss
      rw [h] at this
      exact List.length_eq_zero_iff.1 this.symm
end Go.Proofs.YtggnokfchfipaaaGreatDoor.Ev

