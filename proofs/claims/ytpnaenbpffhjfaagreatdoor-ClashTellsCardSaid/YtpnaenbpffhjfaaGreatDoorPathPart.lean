/- path.part: which texts are parts. -/
import Derived.Test.YtpnaenbpffhjfaaGreatDoorPathPure
import Derived.Test.YtpnaenbpffhjfaaGreatDoorLay
import Derived.WalkKit
import Derived.WalkLawsBesides
import Derived.Deep.LoopGhost
import Derived.Lib.OthersKept
import Derived.Lib.SlTrimSet
import Derived.Lib.Hide
import Derived.Shelf.Strings.SlTrimAscii
import Derived.Outline
set_option linter.unusedVariables false
namespace Go.Proofs.YtpnaenbpffhjfaaGreatDoor
open Go.RowKit Go.Shelf PX

def letters : Bs := [97, 98, 99, 100, 101, 102, 103, 104, 105, 106, 107, 108, 109, 110, 111, 112, 113, 114, 115, 116, 117, 118, 119, 120, 121, 122, 48, 49, 50, 51, 52, 53, 54, 55, 56, 57, 46, 95, 45]

set_option maxRecDepth 20000 in
theorem letters_okN : ∀ n : Nat, n < 256 → letters.contains (UInt8.ofNat n) = okc (UInt8.ofNat n) := by decide
theorem letters_ok (b : UInt8) : letters.contains b = okc b := by
  have := letters_okN b.toNat b.toNat_lt
  rwa [UInt8.ofNat_toNat] at this
set_option maxRecDepth 20000 in
theorem okN_lt : ∀ n : Nat, n < 256 → okc (UInt8.ofNat n) = true → n < 128 := by decide
theorem ok_lt {b : UInt8} (h : okc b = true) : b.toNat < 128 := by
  refine okN_lt b.toNat b.toNat_lt ?_
  rwa [UInt8.ofNat_toNat]
theorem letters_ix {b : UInt8} (h : okc b = true) : 0 ≤ Lib.indexByte letters b := by
  have h1 := letters_ok b
  rw [Lib.contains_iff_indexByte, h] at h1
  simpa using h1

theorem dw_nil {α : Type} (p : α → Bool) : ∀ l : List α, l.dropWhile p = [] ↔ ∀ x ∈ l, p x = true
  | [] => by simp
  | a :: l => by
    by_cases h : p a = true
    · rw [List.dropWhile_cons_of_pos h, dw_nil p l]; simp [h]
    · rw [List.dropWhile_cons_of_neg h]; simp [h]
theorem trim_nil (l : Bs) : Lib.trimS l letters = [] ↔ l.all okc = true := by
  have e : (fun b => letters.contains b) = okc := funext letters_ok
  unfold Lib.trimS Lib.trimLeftS Lib.trimRightS
  show List.dropWhile (fun b => letters.contains b) (List.dropWhile (fun b => letters.contains b) l.reverse).reverse = [] ↔ _
  rw [e]
  constructor
  · intro h
    have h1 : ∀ x ∈ (List.dropWhile okc l.reverse).reverse, okc x = true := by
      have := (dw_nil _ _).1 h
      exact this
    by_cases h2 : List.dropWhile okc l.reverse = []
    · have := (dw_nil _ _).1 h2
      rw [List.all_eq_true]; intro x hx; exact this x (by simpa using hx)
    · have h3 := List.head_dropWhile_not (p := okc) h2
      have h4 := h1 _ (List.mem_reverse.2 (List.head_mem h2))
      rw [h4] at h3; simp at h3
  · intro h
    have : List.dropWhile okc l.reverse = [] := by
      rw [dw_nil]
      intro x hx
      exact List.all_eq_true.1 h x (by simpa using hx)
    rw [this]; rfl

set_option maxHeartbeats 400000 in
theorem part1_in (b : UInt8) (h : okc b = true) (w : World) : Calls Tryz.prog 150 #[.int .i32 (b.toNat : Int)] w fun e w' => e = .returned (.bool false) ∧ w = w' := by
  have hlt := ok_lt h
  have hc := fun w => Any.strings_ContainsRune_ascii Tryz.lays151 ⟨letters.toArray⟩ (b.toNat : Int) w (by omega) (by omega)
  have e : (decide (0 ≤ Lib.indexByte (⟨letters.toArray⟩ : ByteArray).data.toList (b.toNat : Int).toNat.toUInt8)) = true := by
    have e1 : (b.toNat : Int).toNat.toUInt8 = b := by rw [Int.toNat_natCast]; simp
    rw [e1]; simpa using letters_ix h
  rw [e] at hc
  have HC := Lib.hid hc
  clear e h hc
  go_enter Tryz.func150, Tryz.ntmps150
  go_wp2_with (go_at_call 151; refine (HC.out _).mono ?_; rintro e w' ⟨rfl, rfl⟩)
  go_ret
  exact ⟨rfl, rfl⟩

theorem ok_at {s : ByteArray} (h : s.data.toList.all okc = true) (pos : Nat) (hp : pos < s.size) : okc s[pos] = true := by
  refine List.all_eq_true.1 h _ ?_
  have : s[pos] = s.data.toList[pos]'(by simpa using hp) := rfl
  rw [this]
  exact List.getElem_mem _

set_option maxHeartbeats 1000000 in
set_option maxRecDepth 100000 in
theorem indexFunc_in (s : ByteArray) (h : s.data.toList.all okc = true) (hsz : s.size ≤ 9223372036854775807) (w : World) :
    Calls Tryz.prog 218 #[.string s, .func (.func 150) #[] #[], .bool true] w fun e w' => e = .returned (.int .i64 (-1)) ∧ Below w.heap.size w w' := by
  have HA := Lib.hid h
  clear h
  go_enter Tryz.func218, Tryz.ntmps218
  go_wp2
  go_loopg [] s.size (fun gf wx => ∃ pos : Nat, wx.heap[w.heap.size]? = some (.stringIter s pos) ∧ Below w.heap.size w wx ∧ s.size ≤ pos + gf)
  case atStart => exact ⟨0, World.iter_heap w s 0, (Below.refl _ w).alloc (Nat.le_refl _) _, by omega⟩
  case round =>
    obtain ⟨pos, hit, hbw, hfu⟩ := hrel
    by_cases hps : pos < s.size
    · obtain ⟨g', rfl⟩ : ∃ g', gk = g' + 1 := ⟨gk - 1, by omega⟩
      have hok := ok_at HA.out pos hps
      have hnx := fun ty => Lib.run_next_ascii_at (P := Tryz.prog) wr w.heap.size s pos ty hit hps (ok_lt hok)
      have hit2 := Lib.iterAt_heap wr w.heap.size s pos (pos + 1) hit
      have hbw2 := Lib.below_iterAt hbw (k := w.heap.size) (Nat.le_refl _) s (pos + 1)
      obtain ⟨W, hWd⟩ : ∃ W, wr.iterAt w.heap.size s (pos + 1) = W := ⟨_, rfl⟩
      rw [hWd] at hnx hit2 hbw2
      obtain ⟨b, hb⟩ : ∃ b, s[pos] = b := ⟨_, rfl⟩
      rw [hb] at hnx hok
      have hc := part1_in b hok W
      clear hok hb hWd hit
      go_wp2_with (go_at_call 150; refine hc.mono ?_; rintro e w' ⟨rfl, rfl⟩)
      go_roundg g'
      case measure => omega
      case rel => exact ⟨pos + 1, hit2, hbw2, by omega⟩
    · have hnx := fun ty => Lib.run_next_end_at (P := Tryz.prog) wr w.heap.size s pos ty hit hps
      go_wp2
      go_ret
      exact ⟨rfl, hbw⟩

set_option maxHeartbeats 400000 in
theorem containsFunc_in (s : ByteArray) (h : s.data.toList.all okc = true) (hsz : s.size ≤ 9223372036854775807) (w : World) :
    Calls Tryz.prog 149 #[.string s, .func (.func 150) #[] #[]] w fun e w' => e = .returned (.bool false) ∧ Below w.heap.size w w' := by
  have H := Lib.hid (fun w => indexFunc_in s h hsz w)
  clear h
  go_enter Tryz.func149, Tryz.ntmps149
  go_wp2_with (first | (go_at_call 218; refine (H.out _).mono ?_; rintro e w' ⟨rfl, hb⟩) | go_in)
  go_ret
  exact ⟨rfl, hb⟩

theorem trim_in (s : ByteArray) (hsz : s.size ≤ 9223372036854775807) (w : World) :
    Calls Tryz.prog 148 #[.string s, .string ⟨letters.toArray⟩] w fun e w' => e = .returned (.string ⟨(Lib.trimS s.data.toList letters).toArray⟩) ∧ Below w.heap.size w w' :=
  Any.strings_Trim_laid Tryz.lays160 (by kernel_rfl) s ⟨letters.toArray⟩ w hsz (by decide) (ascii_of_all (by decide))

theorem bl_beq (s : ByteArray) (l : Bs) : (s.toList == l) = (s.data.toList == l) := by rw [ByteArray.toList_eq]

set_option maxHeartbeats 1000000 in
theorem part_in (s : ByteArray) (hsz : s.size ≤ 9223372036854775807) (w : World) :
    Calls Tryz.prog 91 #[.string s] w fun e w' => e = .returned (.bool (partL s.data.toList)) ∧ Below w.heap.size w w' := by
  have hlen := Lib.size_eq s
  by_cases h1 : s.data.toList = []
  · have he : partL s.data.toList = false := by rw [h1]; rfl
    rw [he]
    have c1 : s.toList = [] := by rw [ByteArray.toList_eq, h1]
    clear he hlen h1
    go_enter Tryz.func91, Tryz.ntmps91
    go_wp2
    go_ret
    exact ⟨rfl, Below.refl _ _⟩
  · have c1 : s.toList.isEmpty = false := by rw [ByteArray.toList_eq]; simpa using h1
    by_cases h2 : s.size ≤ 12
    · by_cases h3 : s.data.toList = [46]
      · have he : partL s.data.toList = false := by rw [h3]; rfl
        rw [he]
        have c3 : (s.toList == [46]) = true := by rw [ByteArray.toList_eq, h3]; rfl
        clear he hlen h1 h3
        go_enter Tryz.func91, Tryz.ntmps91
        go_wp2
        go_ret
        exact ⟨rfl, Below.refl _ _⟩
      · have c3 : (s.toList == [46]) = false := by rw [ByteArray.toList_eq]; simpa using h3
        by_cases h4 : s.data.toList = [46, 46]
        · have he : partL s.data.toList = false := by rw [h4]; rfl
          rw [he]
          have c4 : (s.toList == [46, 46]) = true := by rw [ByteArray.toList_eq, h4]; rfl
          clear he hlen h1 h3 h4
          go_enter Tryz.func91, Tryz.ntmps91
          go_wp2
          go_ret
          exact ⟨rfl, Below.refl _ _⟩
        · have c4 : (s.toList == [46, 46]) = false := by rw [ByteArray.toList_eq]; simpa using h4
          by_cases h5 : s.data.toList.all okc = true
          · have he : partL s.data.toList = true := by
              have h1' : s.data.toList.length ≠ 0 := fun e => h1 (List.eq_nil_of_length_eq_zero e)
              unfold partL; rw [h5, ← hlen]; simp only [Bool.and_true, Bool.and_eq_true, decide_eq_true_eq, bne_iff_ne, ne_eq]
              exact ⟨⟨⟨by omega, h2⟩, h3⟩, h4⟩
            rw [he]
            obtain ⟨z, hz⟩ : ∃ z, (⟨(Lib.trimS s.data.toList letters).toArray⟩ : ByteArray) = z := ⟨_, rfl⟩
            have c5 : (z.toList == []) = true := by rw [← hz, ByteArray.toList_eq]; show (Lib.trimS s.data.toList letters == []) = true; rw [(trim_nil _).2 h5]; rfl
            have c5' : z.toList = [] := by simpa using c5
            have HT := Lib.hid (fun w => trim_in s hsz w)
            rw [hz] at HT
            have HC := Lib.hid (fun w => containsFunc_in s h5 hsz w)
            clear he hlen h1 h3 h4 h5 hz c5
            go_enter Tryz.func91, Tryz.ntmps91
            go_wp2_with (first | (go_at_call 148; refine (HT.out _).mono ?_; rintro e w1 ⟨rfl, hb1⟩) | (go_at_call 149; refine (HC.out _).mono ?_; rintro e w2 ⟨rfl, hb2⟩))
            go_ret
            exact ⟨rfl, hb1.trans (hb2.mono hb1.size)⟩
          · have he : partL s.data.toList = false := by
              have : s.data.toList.all okc = false := by simpa using h5
              unfold partL; rw [this]; simp
            rw [he]
            obtain ⟨z, hz⟩ : ∃ z, (⟨(Lib.trimS s.data.toList letters).toArray⟩ : ByteArray) = z := ⟨_, rfl⟩
            have c5 : z.toList.isEmpty = false := by
              rw [← hz, ByteArray.toList_eq]
              show (Lib.trimS s.data.toList letters).isEmpty = false
              cases h : Lib.trimS s.data.toList letters with
              | nil => exact absurd ((trim_nil _).1 h) h5
              | cons _ _ => rfl
            have HT := Lib.hid (fun w => trim_in s hsz w)
            rw [hz] at HT
            clear he hlen h1 h3 h4 h5 hz
            go_enter Tryz.func91, Tryz.ntmps91
            go_wp2_with (go_at_call 148; refine (HT.out _).mono ?_; rintro e w1 ⟨rfl, hb1⟩)
            go_ret
            exact ⟨rfl, hb1⟩
    · have he : partL s.data.toList = false := by unfold partL; rw [← hlen]; simp; omega
      rw [he]
      clear he hlen h1
      go_enter Tryz.func91, Tryz.ntmps91
      go_wp2
      go_ret
      exact ⟨rfl, Below.refl _ _⟩
end Go.Proofs.YtpnaenbpffhjfaaGreatDoor
