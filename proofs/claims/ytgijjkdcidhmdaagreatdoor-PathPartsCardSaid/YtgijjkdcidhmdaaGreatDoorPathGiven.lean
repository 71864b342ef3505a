/- The contracts of path's texts in the form in which the printed functions call them: strings.Split at "/", strings.LastIndexByte, path.Check, path.order. -/
import Derived.Test.YtgijjkdcidhmdaaGreatDoorPathCheck
import Derived.Test.YtgijjkdcidhmdaaGreatDoorPathCmp
import Derived.Test.YtgijjkdcidhmdaaGreatDoorWWords
set_option linter.unusedVariables false
namespace Go.Proofs.YtgijjkdcidhmdaaGreatDoor
open Go.RowKit Go.Shelf PX Go.Proofs.YtgijjkdcidhmdaaGreatDoorW.PrintWords

theorem drawn_refl {w w' : World} (h : w' = w) : Drawn0 w w' := by rw [h]; exact Drawn0.refl w

def strings_LastIndexByte.f (a0 : ByteArray) (a1 : Int) : Option Int := if a0.size < 4611686018427387904 then some (Lib.lastIndexByte a0 a1) else none
theorem strings_LastIndexByte.calls (a0 : ByteArray) (a1 : Int) (r : Int) (w : World) (h : strings_LastIndexByte.f a0 a1 = some r) :
    Calls Tryz.prog 177 #[.string a0, .int .u8 a1] w fun e w' => e = .returned (.int .i64 r) ∧ Drawn0 w w' := by
  unfold strings_LastIndexByte.f at h
  split at h
  · rename_i hs
    cases h
    refine (Any.strings_LastIndexByte Tryz.lays149 a0 a1 hs w).mono ?_
    rintro e w' ⟨he, hw⟩
    exact ⟨he, drawn_refl hw⟩
  · cases h

def path_Check.f (a0 : ByteArray) : Option Int := if a0.size < 4294967281 then some (if checkL a0.data.toList then 0 else 2) else none
theorem path_Check.calls (a0 : ByteArray) (r : Int) (w : World) (h : path_Check.f a0 = some r) :
    Calls Tryz.prog 52 #[.string a0] w fun e w' => e = .returned (.int .i64 r) ∧ Below w.heap.size w w' := by
  unfold path_Check.f at h
  split at h
  · rename_i hs
    cases h
    exact check_in a0 hs w
  · cases h

/-! ### strings.Split -/
theorem indexB_47 (s : ByteArray) : Lib.indexB s ⟨#[47]⟩ = Lib.indexByte s.data.toList 47 := Lib.index_one _ _
theorem pieces_split : ∀ (k : Nat) (s : ByteArray), s.size ≤ k → Lib.splitB ⟨#[47]⟩ 0 (Lib.countB s ⟨#[47]⟩) s = pieces s := by
  intro k
  induction k with
  | zero =>
    intro s hs
    have h0 : s.data.toList = [] := List.eq_nil_of_length_eq_zero (by rw [← Lib.size_eq]; omega)
    have hi : Lib.indexByte s.data.toList 47 = -1 := by rw [h0]; rfl
    rw [Lib.splitB_miss _ _ _ _ (by rw [indexB_47]; exact hi), pieces_none hi]
  | succ k ih =>
    intro s hs
    by_cases hn : Lib.indexByte s.data.toList 47 < 0
    · have := Lib.indexByte_ge s.data.toList 47
      have hi : Lib.indexByte s.data.toList 47 = -1 := by omega
      rw [Lib.splitB_miss _ _ _ _ (by rw [indexB_47]; exact hi), pieces_none hi]
    · obtain ⟨i, hi⟩ := Int.eq_ofNat_of_zero_le (by omega : 0 ≤ Lib.indexByte s.data.toList 47)
      obtain ⟨h1, h2⟩ := pieces_some hi
      have hb : Lib.indexB s ⟨#[47]⟩ = i := by rw [indexB_47]; exact hi
      have hc := Lib.countB_hit s ⟨#[47]⟩ i (by decide) hb
      have hsz : (⟨#[47]⟩ : ByteArray).size = 1 := rfl
      rw [hsz] at hc
      rw [hc, Nat.add_comm, Lib.splitB_hit _ _ _ _ i hb, h2, hsz, Nat.add_zero, ih _ (by simp; omega)]

def strings_Split.f (a0 a1 : ByteArray) : Option (List ByteArray) := if a0.size < 4294967281 ∧ a1.data.toList = [47] then some (pieces a0) else none

theorem pieces_len (s : ByteArray) : (pieces s).length = Lib.countB s ⟨#[47]⟩ + 1 := by
  rw [← pieces_split s.size s (Nat.le_refl _)]
  exact Lib.splitB_all ⟨#[47]⟩ (by decide) 0 _ s rfl

/-- What strings.Split hands back lies alone in one new block. -/
theorem split_calls (s : ByteArray) (w : World) (hs : s.size < 4294967281) :
    Calls Tryz.prog 110 #[.string s, .string ⟨#[47]⟩] w fun e w' => e = .returned (.slice (some ⟨w.heap.size, 0, none⟩) (pieces s).length (pieces s).length) ∧ w' = w.alloc (.cells ((pieces s).map Value.string).toArray 9) := by
  have hle := Lib.countB_le ⟨#[47]⟩ (by decide) s.size s (Nat.le_refl _)
  have hI : ∀ (x : ByteArray) (c : Array Value), x.size ≤ s.size → Calls Tryz.prog 218 #[.string x, .string ⟨#[47]⟩] (w.alloc (.cells c 9)) fun e w' => e = .returned (.int .i64 (Lib.indexB x ⟨#[47]⟩)) ∧ w' = w.alloc (.cells c 9) := by
    intro x c _
    rw [indexB_47]
    exact Any.strings_Index_one Tryz.lays143 x 47 _
  have hC : Calls Tryz.prog 217 #[.string s, .string ⟨#[47]⟩] w fun e w' => e = .returned (.int .i64 (Lib.countB s ⟨#[47]⟩)) ∧ w' = w := by
    have h := Any.strings_Count_one Tryz.lays138 s 47 w
    have e : Lib.countByte s.data.toList 47 = Lib.countB s ⟨#[47]⟩ := by
      exact (Lib.count_one 47 s.data.toList).symm
    rw [e] at h
    exact h
  have c := Any.strings_genSplit_core Tryz.lays221 (by kernel_rfl) s ⟨#[47]⟩ 0 (-1) (Lib.countB s ⟨#[47]⟩ + 1) w hs (by decide) (Nat.zero_le _) hI hC (by decide) (by decide) (by rw [if_pos (by decide)]; omega)
  have hlen := pieces_len s
  have hsp := pieces_split s.size s (Nat.le_refl _)
  rw [Nat.add_sub_cancel, hsp] at c
  have e2 : Lib.cellsOf (pieces s) (Lib.countB s ⟨#[47]⟩ + 1) = ((pieces s).map Value.string).toArray := by rw [← hlen]; exact Lib.cellsOf_full _
  rw [e2, ← hlen] at c
  obtain ⟨n, hn⟩ : ∃ n, (pieces s).length = n := ⟨_, rfl⟩
  obtain ⟨C, hC'⟩ : ∃ C, ((pieces s).map Value.string).toArray = C := ⟨_, rfl⟩
  rw [hn, hC'] at c ⊢
  have HC := Lib.hid c
  clear c hI hC hlen hsp e2 hn hC' hle
  go_enter Tryz.func110, Tryz.ntmps110
  go_wp2_with (go_at_call 173; refine HC.out.mono ?_; rintro e w' ⟨rfl, hw⟩; rw [hw])
  go_ret
  exact ⟨rfl, rfl⟩

theorem own_strs (w : World) (xs : List ByteArray) (hx : xs.length ≤ 4294967282) : (w.alloc (.cells (xs.map Value.string).toArray 9)).ownsRow w.heap.size 9 1 (.slice (some ⟨w.heap.size, 0, none⟩) xs.length xs.length) xs.length (xs.map Value.string) :=
  ⟨by simp, .inr ⟨w.heap.size, xs.length, (xs.map Value.string).toArray, rfl, Nat.le_refl _, World.alloc_heap_new w _, Nat.le_refl _, by simp only [maxLen]; omega, by simp, by rw [Nat.mul_one]; exact List.take_of_length_le (by simp)⟩⟩

theorem pieces_le (s : ByteArray) (hs : s.size < 4294967281) : (pieces s).length ≤ 4294967282 := by
  have := Lib.countB_le ⟨#[47]⟩ (by decide) s.size s (Nat.le_refl _)
  rw [pieces_len]; omega

theorem strings_Split.calls (a0 a1 : ByteArray) (r : List ByteArray) (w : World) (h : strings_Split.f a0 a1 = some r) :
    Calls Tryz.prog 110 #[.string a0, .string a1] w fun e w' => ∃ v0_ : Value, e = .returned (v0_) ∧ Kd.R Kd.string 9 w' w.heap.size (fun _ => True) v0_ r ∧ Below w.heap.size w w' := by
  unfold strings_Split.f at h
  split at h
  · rename_i hs
    cases h
    obtain rfl : a1 = ⟨#[47]⟩ := ba_ext hs.2
    refine (split_calls a0 w hs.1).mono ?_
    rintro e w' ⟨rfl, rfl⟩
    exact ⟨_, rfl, Kd.R_of_own (own_strs w _ (pieces_le a0 hs.1)) (fun _ _ => trivial), (Below.refl _ _).alloc (Nat.le_refl _) _⟩
  · cases h

/-! ### path.order -/
theorem strsAt_new (w : World) (xs : List ByteArray) : StrsAt (w.alloc (.cells (xs.map Value.string).toArray 9)) ⟨w.heap.size, 0, none⟩ xs := by
  intro j x hj
  have h1 : (w.alloc (.cells (xs.map Value.string).toArray 9)).heap[w.heap.size]? = some (.cells (xs.map Value.string).toArray 9 (0, 0)) := World.alloc_heap_new w _
  have h2 : (⟨w.heap.size, 0, none⟩ : Addr).add j = ⟨w.heap.size, j, none⟩ := by unfold Addr.add; split <;> simp_all
  rw [h2]
  simp only [World.cell?]
  rw [h1]
  simp [hj]
theorem strsAt_alloc {w : World} {ad : Addr} {xs : List ByteArray} (h : StrsAt w ad xs) (o : Obj) : StrsAt (w.alloc o) ad xs := by
  intro j x hj
  have := h j x hj
  exact cell_kept this (World.grownBy_alloc w o none) (fun r e => by cases e)

def path_order.f (a0 a1 : ByteArray) : Option Int := if a0.size < 4294967281 ∧ a1.size < 4294967281 then some (cmpT a0.data.toList a1.data.toList) else none

theorem pieces_dl (s : ByteArray) : (pieces s).map dl = splitL s.data.toList := by
  unfold pieces
  rw [List.map_map]
  have : (dl ∘ mkB) = id := rfl
  rw [this, List.map_id]

set_option maxHeartbeats 1000000 in
theorem path_order.calls (a0 a1 : ByteArray) (r : Int) (w : World) (h : path_order.f a0 a1 = some r) :
    Calls Tryz.prog 171 #[.string a0, .string a1] w fun e w' => e = .returned (.int .i64 r) ∧ Below w.heap.size w w' := by
  unfold path_order.f at h
  split at h
  · rename_i hs
    cases h
    have H1 := Lib.hid (fun w => split_calls a0 w hs.1)
    have H2 := Lib.hid (fun w => split_calls a1 w hs.2)
    have l0 := pieces_le a0 hs.1
    have l1 := pieces_le a1 hs.2
    have HC := Lib.hid (fun (w : World) c d => compareFunc_any (pieces a0) (pieces a1) ⟨w.heap.size, 0, none⟩ ⟨w.heap.size + 1, 0, none⟩ c d ((w.alloc (.cells ((pieces a0).map Value.string).toArray 9)).alloc (.cells ((pieces a1).map Value.string).toArray 9)) (strsAt_alloc (strsAt_new w _) _) (by have := strsAt_new (w.alloc (.cells ((pieces a0).map Value.string).toArray 9)) (pieces a1); rw [World.size_alloc] at this; exact this) (by omega) (by omega))
    rw [pieces_dl, pieces_dl] at HC
    have e : cmpLL (splitL a0.data.toList) (splitL a1.data.toList) = cmpT a0.data.toList a1.data.toList := rfl
    rw [e] at HC
    generalize cmpT a0.data.toList a1.data.toList = z at *
    generalize pieces a0 = xs at *
    generalize pieces a1 = ys at *
    clear e hs l0 l1
    go_enter Tryz.func171, Tryz.ntmps171
    go_wp2_with fail
    refine (H1.out _).mono ?_
    rintro e w1 ⟨rfl, rfl⟩
    go_wp2_with fail
    refine (H2.out _).mono ?_
    rintro e w1 ⟨rfl, rfl⟩
    go_wp2_with fail
    refine (HC.out _ _ _).mono ?_
    rintro e w1 ⟨rfl, rfl⟩
    go_wp2_with fail
    go_ret
    exact ⟨rfl, ((Below.refl _ _).alloc (Nat.le_refl _) _).alloc (by simp) _⟩
  · cases h
end Go.Proofs.YtgijjkdcidhmdaaGreatDoor
