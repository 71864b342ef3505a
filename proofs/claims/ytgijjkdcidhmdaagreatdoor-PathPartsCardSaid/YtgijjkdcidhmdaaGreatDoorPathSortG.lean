/- path.Sort: Clone, SortFunc by path.order, Compact: the texts in order, each once. -/
import Derived.Test.YtgijjkdcidhmdaaGreatDoorPathGiven
import Derived.Test.YtgijjkdcidhmdaaGreatDoorSortPure
import Derived.Test.YtgijjkdcidhmdaaGreatDoorSortLay
import Derived.Sort.OwnSorted
import Derived.Sort.Grow
import Derived.Lib.OwnBridge
import Derived.Shelf.Slices.Clone
import Derived.Shelf.Slices.CompactS
import Derived.Shelf.SlSortCmp.NoneTotal
set_option linter.unusedVariables false
namespace Go.Proofs.YtgijjkdcidhmdaaGreatDoor
open Go.RowKit Go.Shelf Go.Sort PX SU Go.Proofs.YtgijjkdcidhmdaaGreatDoorW.PrintWords

def ltT (a b : Bs) : Bool := decide (cmpT a b < 0)
theorem ltT_tot : Tot ltT where
  irr x := by unfold ltT; rw [cmpT_zero.2 rfl]; rfl
  tr x y z h1 h2 := by unfold ltT at *; simp only [decide_eq_true_eq] at *; exact cmpT_trans h1 h2
  tot x y h1 h2 := by
    unfold ltT at *
    simp only [decide_eq_false_iff_not] at h1 h2
    rw [cmpT_swap x y] at h2
    exact cmpT_zero.1 (by omega)

/-- Texts that are short enough for strings.Split. -/
abbrev SBs := { l : Bs // l.length < 4294967281 }
instance : Inhabited SBs := ⟨⟨[], by decide⟩⟩
def encS (x : SBs) : Value := encStr x.1
def cfS (x y : SBs) : Int := cmpT x.1 y.1
theorem ltS (x y : SBs) : ltOf cfS x y = ltT x.1 y.1 := rfl
theorem swoS : SWO (ltOf cfS) where
  irrefl x := ltT_tot.irr _
  trans x y z h1 h2 := ltT_tot.tr _ _ _ h1 h2
  ntrans x y z h1 h2 := by
    rw [ltS] at *
    cases h3 : ltT x.1 z.1 with
    | false => rfl
    | true =>
      cases hzy : ltT z.1 y.1 with
      | true => have := ltT_tot.tr _ _ _ h3 hzy; rw [this] at h1; cases h1
      | false => have e := ltT_tot.tot _ _ h2 hzy; rw [e, h3] at h1; cases h1
theorem totS (x y : SBs) (h1 : ltOf cfS x y = false) (h2 : ltOf cfS y x = false) : x = y := Subtype.ext (ltT_tot.tot _ _ h1 h2)

set_option maxHeartbeats 1000000 in
/-- path.order, and what lies behind it: two new blocks. -/
theorem order_exact (a0 a1 : ByteArray) (h0 : a0.size < 4294967281) (h1 : a1.size < 4294967281) (w : World) :
    Calls Tryz.prog 171 #[.string a0, .string a1] w fun e w' => e = .returned (.int .i64 (cmpT a0.data.toList a1.data.toList)) ∧ w' = (w.alloc (.cells ((pieces a0).map Value.string).toArray 9)).alloc (.cells ((pieces a1).map Value.string).toArray 9) := by
  have H1 := Lib.hid (fun w => split_calls a0 w h0)
  have H2 := Lib.hid (fun w => split_calls a1 w h1)
  have l0 := pieces_le a0 h0
  have l1 := pieces_le a1 h1
  have HC := Lib.hid (fun (w : World) c d => compareFunc_any (pieces a0) (pieces a1) ⟨w.heap.size, 0, none⟩ ⟨w.heap.size + 1, 0, none⟩ c d ((w.alloc (.cells ((pieces a0).map Value.string).toArray 9)).alloc (.cells ((pieces a1).map Value.string).toArray 9)) (strsAt_alloc (strsAt_new w _) _) (by have := strsAt_new (w.alloc (.cells ((pieces a0).map Value.string).toArray 9)) (pieces a1); rw [World.size_alloc] at this; exact this) (by omega) (by omega))
  rw [pieces_dl, pieces_dl] at HC
  have e : cmpLL (splitL a0.data.toList) (splitL a1.data.toList) = cmpT a0.data.toList a1.data.toList := rfl
  rw [e] at HC
  generalize cmpT a0.data.toList a1.data.toList = z at *
  generalize pieces a0 = xs at *
  generalize pieces a1 = ys at *
  clear e l0 l1
  go_enter Tryz.func171, Tryz.ntmps171
  go_wp2_with fail
  refine (H1.out _).mono ?_
  rintro e w1 ⟨rfl, rfl⟩
  go_wp2_with fail
  refine (H2.out _).mono ?_
  rintro e w1 ⟨rfl, rfl⟩
  go_wp2_with fail
  refine (HC.out _ _ _).mono ?_
  rintro e w1 ⟨rfl, rfl⟩
  go_wp2_with fail
  go_ret
  exact ⟨rfl, rfl⟩

theorem cmpLays (blk off size : Nat) (w : World) : CmpLays1 Tryz.prog 171 #[] encS cfS blk off size w := by
  intro m os dk _ x y
  refine (order_exact ⟨x.1.toArray⟩ ⟨y.1.toArray⟩ (by rw [Lib.size_eq]; exact x.2) (by rw [Lib.size_eq]; exact y.2) _).mono ?_
  rintro e w' ⟨he, hw⟩
  refine ⟨he, 0, #[.cells ((pieces ⟨x.1.toArray⟩).map Value.string).toArray 9] ++ #[.cells ((pieces ⟨y.1.toArray⟩).map Value.string).toArray 9], ?_⟩
  rw [hw, alloc_eq_grow, alloc_eq_grow, grow_grow]
  rfl

def path_Sort.f (l0 : List ByteArray) : Option (List ByteArray) := if (l0.all (fun x => decide (x.size < 4294967281))) = true ∧ l0.length ≤ 8796093022000 then some ((sortU ltT (l0.map (·.data.toList))).map mkB) else none

def subS : (l : List ByteArray) → (∀ x ∈ l, x.size < 4294967281) → List SBs
  | [], _ => []
  | x :: l, h => ⟨x.data.toList, by rw [← Lib.size_eq]; exact h x (by simp)⟩ :: subS l (fun y hy => h y (by simp [hy]))
theorem subS_val : ∀ (l : List ByteArray) h, (subS l h).map (·.1) = l.map (·.data.toList)
  | [], _ => rfl
  | x :: l, h => by simp [subS, subS_val l]
theorem subS_enc (l : List ByteArray) (h : ∀ x ∈ l, x.size < 4294967281) : (subS l h).map encS = l.map Value.string := by
  induction l with
  | nil => rfl
  | cons x l ih => simp only [subS, List.map_cons, ih]; rfl

theorem own_grow {w : World} {base e s n : Nat} {v : Value} {xs : List Value} (h : w.ownsRow base e s v n xs) (os : Array Obj) : (grow w os).ownsRow base e s v n xs := by
  rcases h.2 with ⟨rfl, h0⟩ | ⟨g, cap, cur, rfl, hb, hg, r⟩
  · exact ⟨h.1, .inl ⟨rfl, h0⟩⟩
  · refine ⟨h.1, .inr ⟨g, cap, cur, rfl, hb, ?_, r⟩⟩
    have := (Array.getElem?_eq_some_iff.1 hg).1
    simp only [grow]
    rw [Array.getElem?_append_left this]; exact hg
theorem below_grow {B : Nat} {w0 w : World} (h : Below B w0 w) (hB : B ≤ w.heap.size) (os : Array Obj) : Below B w0 (grow w os) :=
  ⟨h.os, h.tape, h.output, by simp [grow]; have := h.size; omega, fun k hk => by
    rw [← h.block k hk]
    simp only [grow]
    rw [Array.getElem?_append_left (by omega)]⟩

theorem mergeS (ss : List SBs) : (ss.mergeSort fun x y => !(ltOf cfS) y x).map (·.1) = (ss.map (·.1)).mergeSort fun x y => !ltT y x :=
  List.map_mergeSort (fun a _ b _ => rfl)

/-- What SortFunc and Compact make of a slice of the call's own that holds at least one text. -/
theorem sort_tail (ss : List SBs) (w w1 : World) (v1 : Value) (n : Nat) (hown : w1.ownsRow w.heap.size 9 1 v1 n (ss.map encS)) (hnn : v1 ≠ .slice none 0 0) (hbel : Below w.heap.size w w1) (hn : n ≤ 8796093022000) :
    ∃ g cap, v1 = .slice (some ⟨g, 0, none⟩) n cap ∧
      Calls Tryz.prog 170 #[.slice (some ⟨g, 0, none⟩) n cap, .func (.func 171) #[] #[]] w1 fun e w2 => e = .returned (.tuple #[]) ∧
        Calls Tryz.prog 172 #[.slice (some ⟨g, 0, none⟩) n cap] w2 fun e w3 => ∃ v : Value, e = .returned v ∧
          w3.ownsRow w.heap.size 9 1 v (sortU ltT (ss.map (·.1))).length ((sortU ltT (ss.map (·.1))).map encStr) ∧ Below w.heap.size w w3 := by
  obtain ⟨g, cap, rfl, hbg, hgl, hncap, hcm, hlen, hH⟩ := Lib.holds_of_ownsRow hown hnn
  have eg : ∀ args w, (callFunc 171 args).run Tryz.prog w = .ok (.enter 171 args) w := enters_of Tryz.func171 (by kernel_rfl) rfl
  refine ⟨g, cap, rfl, ?_⟩
  have hS := Any.slices_SortFunc_total Tryz.sortL encS (fun _ => rfl) cfS swoS 171 #[] g 0 cap ss.toArray w1 eg (cmpLays g 0 _ w1) hH hgl (by simp; omega) totS
  have hsz : ss.toArray.size = n := by simpa using hlen
  rw [hsz] at hS
  refine hS.mono ?_
  rintro e w2 ⟨rfl, m, os, rfl⟩
  refine ⟨rfl, ?_⟩
  obtain ⟨zs, hzs⟩ : ∃ zs, ss.mergeSort (fun x y => !(ltOf cfS) y x) = zs := ⟨_, rfl⟩
  have hzl : zs.length = n := by rw [← hzs, List.length_mergeSort]; exact hlen
  have ezs : ss.toArray.toList.mergeSort (fun x y => !(ltOf cfS) y x) = zs := hzs
  rw [ezs]
  have o1 := Lib.ownsRow_putRow (q := m) (k := n) (ys := zs) hown hzl (Nat.le_refl _)
  rw [List.take_of_length_le (by omega)] at o1
  have b1 : Below w.heap.size w (putRow encS (Sort.ahead w1 m) g 0 zs.toArray) := Lib.below_putRow hbel hbg
  obtain ⟨W2, hW2⟩ : ∃ W2, sortWorld encS w1 g 0 m zs.toArray os = W2 := ⟨_, rfl⟩
  have o2 : W2.ownsRow w.heap.size 9 1 (.slice (some ⟨g, 0, none⟩) n cap) n ((zs.map (·.1)).map encStr) := by
    rw [← hW2]
    have := own_grow o1 os
    rw [List.map_map]
    exact this
  have b2 : Below w.heap.size w W2 := by
    rw [← hW2]; exact below_grow b1 b1.size os
  rw [hW2]
  obtain ⟨g', cap', e', hbg', hgl', hncap', hcm', hlen', hH'⟩ := Lib.holds_of_ownsRow o2 (by simp)
  cases e'
  have hC := Any.slices_Compact_string Tryz.laysCompact g 0 cap (zs.map (·.1)) W2 hH' (by simp; omega) (by simp; omega)
  have hl2 : (zs.map (·.1)).length = n := by simpa using hzl
  rw [hl2] at hC
  have ec : Lib.compact (zs.map (·.1)) = sortU ltT (ss.map (·.1)) := by
    rw [← hzs, mergeS, compact_sorted ltT_tot]
  have hle := Lib.compact_length_le (zs.map (·.1))
  rw [ec] at hC hle
  refine hC.mono ?_
  rintro e w3 ⟨rfl, q, rfl⟩
  have o3 := Lib.ownsRow_putRow (q := q) (k := (sortU ltT (ss.map (·.1))).length) (ys := sortU ltT (ss.map (·.1)) ++ List.replicate (n - (sortU ltT (ss.map (·.1))).length) []) o2 (by rw [List.length_append, List.length_replicate]; omega) (by omega)
  rw [List.take_left] at o3
  exact ⟨_, rfl, o3, Lib.below_putRow b2 hbg⟩

theorem encStr_mkB (l : List Bs) : l.map encStr = (l.map mkB).map Value.string := by
  rw [List.map_map]; rfl

set_option maxHeartbeats 1000000 in
/-- The walk, for whatever the clone leaves. -/
theorem sort_own (arg : Value) (ss : List SBs) (w : World) (n : Nat) (hn : n ≤ 8796093022000)
    (hclone : Calls Tryz.prog 169 #[arg] w fun e w' => ∃ v', e = .returned v' ∧ w'.ownsRow w.heap.size 9 1 v' n (ss.map encS) ∧ v' ≠ .slice none 0 0 ∧ Below w.heap.size w w') :
    Calls Tryz.prog 109 #[arg] w fun e w3 => ∃ v : Value, e = .returned v ∧
          w3.ownsRow w.heap.size 9 1 v (sortU ltT (ss.map (·.1))).length ((sortU ltT (ss.map (·.1))).map encStr) ∧ Below w.heap.size w w3 := by
  have HC := Lib.hid hclone
  clear hclone
  go_enter Tryz.func109, Tryz.ntmps109
  go_wp2_with fail
  refine HC.out.mono ?_
  rintro e w1 ⟨v1, rfl, hown, hnn, hbel⟩
  obtain ⟨g, cap, hv, hS⟩ := sort_tail ss w w1 v1 n hown hnn hbel hn
  rw [hv]
  have HS := Lib.hid hS
  clear hS hown hnn hbel hv
  go_wp2_with fail
  refine HS.out.mono ?_
  rintro e w2 ⟨rfl, hK⟩
  have HK := Lib.hid hK
  clear hK
  go_wp2_with fail
  refine HK.out.mono ?_
  rintro e w3 ⟨v, rfl, ho, hb⟩
  have HO := Lib.hid ho
  have HB := Lib.hid hb
  clear ho hb
  go_wp2_with fail
  go_ret
  exact ⟨v, rfl, HO.out, HB.out⟩

set_option maxHeartbeats 1000000 in
theorem sort_nil (c : Nat) (w : World) :
    Calls Tryz.prog 109 #[.slice none 0 c] w fun e w' => e = .returned (.slice none 0 0) ∧ w = w' := by
  have H1 := Lib.hid (fun w => Any.slices_Clone_string_nil Tryz.laysClone 0 c w)
  have H2 := Lib.hid (fun w fv => AnyF.slices_SortFunc_none (P := Tryz.prog) (ρ := Tryz.sortL_ren) { Tryz.sortL with } none 0 fv w)
  have H3 := Lib.hid (fun w => Any.slices_Compact_string_empty Tryz.laysCompact none 0 w)
  go_enter Tryz.func109, Tryz.ntmps109
  go_wp2_with fail
  refine (H1.out _).mono ?_
  rintro e w1 ⟨rfl, rfl⟩
  go_wp2_with fail
  refine (H2.out _ _).mono ?_
  rintro e w2 ⟨rfl, rfl⟩
  go_wp2_with fail
  refine (H3.out _).mono ?_
  rintro e w2 ⟨rfl, rfl⟩
  go_wp2_with fail
  go_ret
  exact ⟨rfl, rfl⟩

theorem path_Sort.calls (A0 : Option Addr) (c0 : Nat) (l0 : List ByteArray) (r : List ByteArray) (w : World) (hr0 : Kd.C Kd.string w A0 l0.length l0) (hc0 : l0.length ≤ c0) (h : path_Sort.f l0 = some r) :
    Calls Tryz.prog 109 #[.slice A0 l0.length c0] w fun e w' => ∃ v0_ : Value, e = .returned (v0_) ∧ Kd.R Kd.string 9 w' w.heap.size (fun _ => True) v0_ r ∧ Below w.heap.size w w' := by
  unfold path_Sort.f at h
  split at h
  · rename_i hs
    cases h
    have hall : ∀ x ∈ l0, x.size < 4294967281 := fun x hx => of_decide_eq_true (List.all_eq_true.1 hs.1 x hx)
    have fin : ∀ (W : World) (v : Value), W.ownsRow w.heap.size 9 1 v (sortU ltT ((subS l0 hall).map (·.1))).length ((sortU ltT ((subS l0 hall).map (·.1))).map encStr) → Kd.R Kd.string 9 W w.heap.size (fun _ => True) v ((sortU ltT (l0.map (·.data.toList))).map mkB) := by
      intro W v ho
      rw [subS_val] at ho
      refine Kd.R_of_own ?_ (fun _ _ => trivial)
      rw [List.length_map]
      rw [encStr_mkB] at ho
      exact ho
    by_cases h0 : l0 = []
    · subst h0
      cases A0 with
      | none =>
        refine (sort_nil c0 w).mono ?_
        rintro e w' ⟨rfl, rfl⟩
        exact ⟨_, rfl, Kd.R_nil _ _ _ _ _, Below.refl _ _⟩
      | some a =>
        refine (sort_own _ [] w 0 (by omega) ((Any.slices_Clone_string_zero Tryz.laysClone a c0 w).mono fun e w' h => h)).mono ?_
        rintro e w' ⟨v, rfl, ho, hb⟩
        exact ⟨v, rfl, fin _ _ ho, hb⟩
    · obtain ⟨ad, hA, hcell⟩ := hr0.2.2 (List.length_pos_iff.2 h0)
      subst hA
      have hcells : ∀ j x, l0[j]? = some x → w.cell? (ad.add j) = some (.string x) := by
        intro j x hj
        obtain ⟨c, _, hk, hu⟩ := hcell j x hj
        have hk' : c = [Value.string x] := hk
        have := hu 0 (.string x) (by rw [hk']; rfl)
        have e1 : Kd.string.sz = 1 := rfl
        simpa [e1] using this
      have hsp : ad.spot = none := by
        obtain ⟨x, hx⟩ : ∃ x, l0[0]? = some x := ⟨_, List.getElem?_eq_getElem (List.length_pos_iff.2 h0)⟩
        have h1 := hcells 0 x hx
        have h2 : ad.add 0 = ad := by simp [Addr.add]
        rw [h2] at h1
        unfold World.cell? at h1
        cases hspot : ad.spot with
        | none => rfl
        | some _ =>
          rw [hspot] at h1
          split at h1 <;> simp at h1
      obtain ⟨b, off, sp⟩ := ad
      obtain rfl : sp = none := hsp
      have hadd : ∀ j, (⟨b, off, none⟩ : Addr).add j = ⟨b, off + j, none⟩ := by
        intro j; unfold Addr.add; split <;> simp_all
      have hcl := Any.slices_Clone_string Tryz.laysClone b off l0.length c0 l0 w (Nat.le_refl _) (by have := hs.2; omega) (by
        intro j hj
        rw [← hadd, List.getD_eq_getElem?_getD, List.getElem?_eq_getElem hj]
        exact hcells j _ (List.getElem?_eq_getElem hj))
      rw [List.take_length, ← subS_enc l0 hall] at hcl
      refine (sort_own _ (subS l0 hall) w l0.length hs.2 hcl).mono ?_
      rintro e w' ⟨v, rfl, ho, hb⟩
      exact ⟨v, rfl, fin _ _ ho, hb⟩
  · cases h
end Go.Proofs.YtgijjkdcidhmdaaGreatDoor
