/- The reference's paths. No conditions. -/
import Derived.Test.YtpnaenbpffhjfaaGreatDoorZC
import Derived.Test.YtpnaenbpffhjfaaGreatDoorPathPure
set_option linter.unusedVariables false
set_option linter.unusedSimpArgs false
set_option linter.all false
namespace Go.Proofs.YtpnaenbpffhjfaaGreatDoor.Z1
open Go.Proofs.YtpnaenbpffhjfaaGreatDoor.Ev
set_option maxHeartbeats 2000000
set_option maxRecDepth 10000
variable {X : List (Nat × Ext)} {Z : List (Nat × FzC)}
/-! the reference's paths -/
def cutAt (s : ByteArray) : Nat → Nat → Nat → List ByteArray
  | 0, _, from_ => [subB s from_ (lenB s)]
  | n + 1, k, from_ => if s.data[k]? = some 47 then subB s from_ k :: cutAt s n (k + 1) (k + 1) else cutAt s n (k + 1) from_
def splitS (s : ByteArray) : List ByteArray := cutAt s (lenB s) 0 0
def I165 (s : ByteArray) (m : Nat) (tm : Tr Value) (df : List DfE) (h : Hp) (nx : Nat) : Prop := ∃ k f acc v, k ≤ lenB s ∧ m = lenB s - k ∧ df = [] ∧ f ≤ k ∧ tm.get 0 = some (.string s) ∧ tm.get 3 = some v ∧ tm.get 4 = some (.int .i64 (f : Nat)) ∧ tm.get 5 = some (.int .i64 (k : Nat)) ∧ OwnS h 64 nx 1 9 v (acc.map eS) ∧ 64 ≤ nx ∧ acc.length ≤ k ∧ splitS s = acc ++ cutAt s (lenB s - k) k f
theorem zcT9 : zcT Tryz.prog 9 1 = some [.string ⟨#[]⟩] := by simp [go_sem]
theorem own_str {h : Hp} {nx : Nat} {v : Value} {acc : List ByteArray} (o : OwnS h 64 nx 1 9 v (acc.map eS)) (hn : 64 ≤ nx) (hl : acc.length ≤ 1000000) (x : ByteArray) :
    ∃ v' h' nx', evAppend Tryz.prog [180, 180] [v, .slice (some ⟨nx, 0, none⟩) 1 1] (h.set nx (.cells (Tr.ofL [.string x]) 1 0)) (nx + 1) = .ok v' h' nx' ∧ nx + 1 ≤ nx' ∧ OwnS h' 64 nx' 1 9 v' ((acc ++ [x]).map eS) := by
  obtain ⟨v', h', nx', e, a, b, _⟩ := app_own (P := Tryz.prog) (t := 180) (r := .string x) sl180 in180 by9 zcT9 rfl rfl (fun r hr => by obtain ⟨y, _, rfl⟩ := List.mem_map.1 hr; rfl) (by omega) (by rw [List.length_map]; omega) (by rw [List.length_map]; omega) o hn
  exact ⟨v', h', nx', e, a, by rw [List.map_append]; exact b⟩
theorem strs_cells : ∀ l : List ByteArray, flatC (l.map eS) = l.map eS
  | [] => rfl
  | x :: l => by show .string x :: flatC (l.map eS) = _; rw [strs_cells l]; rfl
theorem strs_noId : ∀ l : List ByteArray, noIdL (l.map eS) = true
  | [] => by simp [noIdL]
  | x :: l => by simp [noIdL, noId, eS, strs_noId l]
theorem strs_cellsV : ∀ l : List ByteArray, cellsV (l.map eS) = true
  | [] => by simp [cellsV]
  | x :: l => by have := strs_cellsV l; simp [cellsV, cellV, eS] at this ⊢; exact this
theorem view_strs {h : Hp} {nx : Nat} {v : Value} {acc : List ByteArray} (o : OwnS h 64 nx 1 9 v (acc.map eS)) : viewS h false 1 v = some (fz (acc.map eS)) := by
  have hr : ∀ r ∈ acc.map eS, (cellsL r).length = 1 := fun r hr => by obtain ⟨y, _, rfl⟩ := List.mem_map.1 hr; rfl
  refine view_own o hr (Nat.le_refl _) (by rw [strs_cells]; exact strs_noId _) ?_ ?_
  · show (Nat.beq 1 1 && cellsV (flatC (acc.map eS))) = true
    rw [strs_cells, strs_cellsV]; rfl
  · have hc := chop_one (rows := acc.map eS) (by simp [eS, cellsL])
    rw [hc.1]; exact hc.2
noncomputable def C165 : FzC := ⟨F1p eS pathS fun s => eL eS (splitS s), [.one .is]⟩
theorem ok165 (hP : ProgOK Tryz.prog X []) (hZ : ZOk Tryz.prog Z) (hz : zOf Z 165 = none) (s : ByteArray) (hs : pathS s = true) : FnOk Tryz.prog 165 [eS s] (eL eS (splitS s)) := by
  refine fn_by hP hZ i165 hz (lenB s + 1) 1 (.one (.sl false 1)) rfl ?_
  have hs : lenB s < 1000000 := by simpa [pathS] using hs
  simp only [c165, go_sem, eS, Nat.reduceEqDiff]
  refine tot_loop (I165 s) (m := lenB s) (by omega) ⟨0, 0, [], .slice none 0 0, by omega, by omega, rfl, by omega, by simp [go_sem], by simp [go_sem], by simp [go_sem], by simp [go_sem], .nil, by omega, by simp, rfl⟩ ?_
  rintro m tm df h nx ⟨k, f, acc, v, hk, hm, rfl, hfk, h0, h3, h4, h5, o, hnx, hacc, hc⟩
  by_cases hkl : k < lenB s
  · have hsz : k < s.data.size := by rw [lenB_eq s] at hkl; exact hkl
    obtain ⟨x, hx⟩ : ∃ x, s.data[k]? = some x := ⟨_, Array.getElem?_eq_getElem hsz⟩
    have hw : IntKind.wrap .i64 ((k : Int) + 1) = ((k + 1 : Nat) : Int) := by rw [wrap64 (by omega) (by omega)]; omega
    have hr : lenB s - k = (lenB s - (k + 1)) + 1 := by omega
    rw [hr] at hc
    by_cases c : x = 47
    · subst c
      obtain ⟨v', h', nx', e, hn, o'⟩ := own_str o hnx (by omega) (subB s f k)
      simp [go_sem, h0, h3, h4, h5, hkl, hx, hw, hfk, hk, e]
      exact ⟨lenB s - (k + 1), by omega, k + 1, k + 1, acc ++ [subB s f k], v', by omega, rfl, rfl, by omega, by simp [go_sem, h0], by simp [go_sem], by simp [go_sem], by simp [go_sem], o', by omega, by simp; omega, by rw [hc]; simp [cutAt, hx]⟩
    · have c6 : ¬ ((x.toNat : Int) = 47) := fun e => c (UInt8.toNat_inj.1 (by show x.toNat = 47; omega))
      simp [go_sem, h0, h3, h4, h5, hkl, hx, hw, hfk, hk, c6]
      exact ⟨lenB s - (k + 1), by omega, k + 1, f, acc, v, by omega, rfl, rfl, by omega, by simp [go_sem, h0], by simp [go_sem, h3], by simp [go_sem, h4], by simp [go_sem], o, hnx, by omega, by rw [hc]; simp [cutAt, hx, c]⟩
  · have hkk : k = lenB s := by omega
    have hf' : f ≤ lenB s := by omega
    obtain ⟨v', h', nx', e, hn, o'⟩ := own_str o hnx (by omega) (subB s f (lenB s))
    have hvw := view_strs o'
    have hfin : splitS s = acc ++ [subB s f (lenB s)] := by rw [hc, hkk, Nat.sub_self]; rfl
    simp [go_sem, h0, h3, h4, h5, hkl, hf', e, hfin, eL]
    simpa using hvw
end Go.Proofs.YtpnaenbpffhjfaaGreatDoor.Z1

namespace Go.Proofs.YtpnaenbpffhjfaaGreatDoor.Z1
open Go.Proofs.YtpnaenbpffhjfaaGreatDoor.Ev PX
set_option maxHeartbeats 2000000
set_option maxRecDepth 10000
variable {X : List (Nat × Ext)} {Z : List (Nat × FzC)}
def badC (x : UInt8) : Bool := (decide (x.toNat < 97) || decide (122 < x.toNat)) && (decide (x.toNat < 48) || decide (57 < x.toNat)) && (!decide (x.toNat = 46)) && (!decide (x.toNat = 95)) && (!decide (x.toNat = 45))
theorem badC_eq (x : UInt8) : badC x = !okc x := by
  have h1 : (97 ≤ x) = (97 ≤ x.toNat) := by rw [UInt8.le_iff_toNat_le]; rfl
  have h2 : (x ≤ 122) = (x.toNat ≤ 122) := by rw [UInt8.le_iff_toNat_le]; rfl
  have h3 : (48 ≤ x) = (48 ≤ x.toNat) := by rw [UInt8.le_iff_toNat_le]; rfl
  have h4 : (x ≤ 57) = (x.toNat ≤ 57) := by rw [UInt8.le_iff_toNat_le]; rfl
  have h5 : (x == 46) = decide (x.toNat = 46) := by rw [Bool.eq_iff_iff, beq_iff_eq, decide_eq_true_eq, ← UInt8.toNat_inj]; rfl
  have h6 : (x == 95) = decide (x.toNat = 95) := by rw [Bool.eq_iff_iff, beq_iff_eq, decide_eq_true_eq, ← UInt8.toNat_inj]; rfl
  have h7 : (x == 45) = decide (x.toNat = 45) := by rw [Bool.eq_iff_iff, beq_iff_eq, decide_eq_true_eq, ← UInt8.toNat_inj]; rfl
  simp only [badC, okc, h1, h2, h3, h4, h5, h6, h7]
  rw [Bool.eq_iff_iff]
  simp
def partR (s : ByteArray) : Bool := partL s.data.toList
noncomputable def C166 : FzC := ⟨F1p eS pathS fun s => .bool (partR s), [.one .is]⟩
def I166 (s : ByteArray) (m : Nat) (tm : Tr Value) (df : List DfE) (h : Hp) (nx : Nat) : Prop := ∃ k, k ≤ lenB s ∧ m = lenB s - k ∧ df = [] ∧ tm.get 0 = some (.string s) ∧ tm.get 3 = some (.int .i64 (k : Nat)) ∧ s.data.toList.all okc = (s.data.toList.drop k).all okc
theorem ok166 (hP : ProgOK Tryz.prog X []) (hZ : ZOk Tryz.prog Z) (hz : zOf Z 166 = none) (s : ByteArray) (hs : pathS s = true) : FnOk Tryz.prog 166 [eS s] (.bool (partR s)) := by
  refine fn_by hP hZ i166 hz (lenB s + 1) 1 (.one .is) rfl ?_
  have hs : lenB s < 1000000 := by simpa [pathS] using hs
  simp only [c166, go_sem, eS, Nat.reduceEqDiff]
  refine tot_loop (I166 s) (m := lenB s) (by omega) ⟨0, by omega, by omega, rfl, by simp [go_sem], by simp [go_sem], rfl⟩ ?_
  rintro m tm df h nx ⟨k, hk, hm, rfl, h0, h3, hc⟩
  by_cases hkl : k < lenB s
  · have hsz : k < s.data.size := by rw [lenB_eq s] at hkl; exact hkl
    obtain ⟨x, hx⟩ : ∃ x, s.data[k]? = some x := ⟨_, Array.getElem?_eq_getElem hsz⟩
    have hx' : s.data.toList[k]? = some x := by rw [Array.getElem?_toList]; exact hx
    have hw : IntKind.wrap .i64 ((k : Int) + 1) = ((k + 1 : Nat) : Int) := by rw [wrap64 (by omega) (by omega)]; omega
    have hlt : k < s.data.toList.length := hkl
    have hd : s.data.toList.drop k = x :: s.data.toList.drop (k + 1) := by
      rw [List.drop_eq_getElem_cons hlt]
      rw [List.getElem?_eq_getElem hlt] at hx'
      rw [Option.some.inj hx']
    rw [hd] at hc
    have bad : okc x = false → partR s = false := fun h => by
      unfold partR partL
      rw [hc]; simp [h]
    have ok : badC x = false → okc x = true := fun h => by have := badC_eq x; rw [h] at this; simpa using this.symm
    have nok : badC x = true → okc x = false := fun h => by have := badC_eq x; rw [h] at this; simpa using this.symm
    by_cases c1 : (x.toNat : Int) < 97
    · by_cases c3 : (x.toNat : Int) < 48
      · by_cases c5 : (x.toNat : Int) = 46
        · have good := ok (by simp [badC]; omega)
          simp [go_sem, h0, h3, hkl, hx, hw, c1, c3, c5]
          exact ⟨lenB s - (k + 1), by omega, k + 1, by omega, rfl, rfl, by simp [go_sem, h0], by simp [go_sem], by rw [hc]; simp [good]⟩
        · by_cases c6 : (x.toNat : Int) = 95
          · have good := ok (by simp [badC]; omega)
            simp [go_sem, h0, h3, hkl, hx, hw, c1, c3, c5, c6]
            exact ⟨lenB s - (k + 1), by omega, k + 1, by omega, rfl, rfl, by simp [go_sem, h0], by simp [go_sem], by rw [hc]; simp [good]⟩
          · by_cases c7 : (x.toNat : Int) = 45
            · have good := ok (by simp [badC]; omega)
              simp [go_sem, h0, h3, hkl, hx, hw, c1, c3, c5, c6, c7]
              exact ⟨lenB s - (k + 1), by omega, k + 1, by omega, rfl, rfl, by simp [go_sem, h0], by simp [go_sem], by rw [hc]; simp [good]⟩
            · have hp := bad (nok (by simp [badC]; omega))
              simp [go_sem, h0, h3, hkl, hx, hw, c1, c3, c5, c6, c7, hp]
      · by_cases c4 : (57 : Int) < x.toNat
        · by_cases c5 : (x.toNat : Int) = 46
          · have good := ok (by simp [badC]; omega)
            simp [go_sem, h0, h3, hkl, hx, hw, c1, c3, c4, c5]
            exact ⟨lenB s - (k + 1), by omega, k + 1, by omega, rfl, rfl, by simp [go_sem, h0], by simp [go_sem], by rw [hc]; simp [good]⟩
          · by_cases c6 : (x.toNat : Int) = 95
            · have good := ok (by simp [badC]; omega)
              simp [go_sem, h0, h3, hkl, hx, hw, c1, c3, c4, c5, c6]
              exact ⟨lenB s - (k + 1), by omega, k + 1, by omega, rfl, rfl, by simp [go_sem, h0], by simp [go_sem], by rw [hc]; simp [good]⟩
            · by_cases c7 : (x.toNat : Int) = 45
              · have good := ok (by simp [badC]; omega)
                simp [go_sem, h0, h3, hkl, hx, hw, c1, c3, c4, c5, c6, c7]
                exact ⟨lenB s - (k + 1), by omega, k + 1, by omega, rfl, rfl, by simp [go_sem, h0], by simp [go_sem], by rw [hc]; simp [good]⟩
              · have hp := bad (nok (by simp [badC]; omega))
                simp [go_sem, h0, h3, hkl, hx, hw, c1, c3, c4, c5, c6, c7, hp]
        · have good := ok (by simp [badC]; omega)
          simp [go_sem, h0, h3, hkl, hx, hw, c1, c3, c4]
          exact ⟨lenB s - (k + 1), by omega, k + 1, by omega, rfl, rfl, by simp [go_sem, h0], by simp [go_sem], by rw [hc]; simp [good]⟩
    · by_cases c2 : (122 : Int) < x.toNat
      · by_cases c3 : (x.toNat : Int) < 48
        · by_cases c5 : (x.toNat : Int) = 46
          · have good := ok (by simp [badC]; omega)
            simp [go_sem, h0, h3, hkl, hx, hw, c1, c2, c3, c5]
            exact ⟨lenB s - (k + 1), by omega, k + 1, by omega, rfl, rfl, by simp [go_sem, h0], by simp [go_sem], by rw [hc]; simp [good]⟩
          · by_cases c6 : (x.toNat : Int) = 95
            · have good := ok (by simp [badC]; omega)
              simp [go_sem, h0, h3, hkl, hx, hw, c1, c2, c3, c5, c6]
              exact ⟨lenB s - (k + 1), by omega, k + 1, by omega, rfl, rfl, by simp [go_sem, h0], by simp [go_sem], by rw [hc]; simp [good]⟩
            · by_cases c7 : (x.toNat : Int) = 45
              · have good := ok (by simp [badC]; omega)
                simp [go_sem, h0, h3, hkl, hx, hw, c1, c2, c3, c5, c6, c7]
                exact ⟨lenB s - (k + 1), by omega, k + 1, by omega, rfl, rfl, by simp [go_sem, h0], by simp [go_sem], by rw [hc]; simp [good]⟩
              · have hp := bad (nok (by simp [badC]; omega))
                simp [go_sem, h0, h3, hkl, hx, hw, c1, c2, c3, c5, c6, c7, hp]
        · by_cases c4 : (57 : Int) < x.toNat
          · by_cases c5 : (x.toNat : Int) = 46
            · have good := ok (by simp [badC]; omega)
              simp [go_sem, h0, h3, hkl, hx, hw, c1, c2, c3, c4, c5]
              exact ⟨lenB s - (k + 1), by omega, k + 1, by omega, rfl, rfl, by simp [go_sem, h0], by simp [go_sem], by rw [hc]; simp [good]⟩
            · by_cases c6 : (x.toNat : Int) = 95
              · have good := ok (by simp [badC]; omega)
                simp [go_sem, h0, h3, hkl, hx, hw, c1, c2, c3, c4, c5, c6]
                exact ⟨lenB s - (k + 1), by omega, k + 1, by omega, rfl, rfl, by simp [go_sem, h0], by simp [go_sem], by rw [hc]; simp [good]⟩
              · by_cases c7 : (x.toNat : Int) = 45
                · have good := ok (by simp [badC]; omega)
                  simp [go_sem, h0, h3, hkl, hx, hw, c1, c2, c3, c4, c5, c6, c7]
                  exact ⟨lenB s - (k + 1), by omega, k + 1, by omega, rfl, rfl, by simp [go_sem, h0], by simp [go_sem], by rw [hc]; simp [good]⟩
                · have hp := bad (nok (by simp [badC]; omega))
                  simp [go_sem, h0, h3, hkl, hx, hw, c1, c2, c3, c4, c5, c6, c7, hp]
          · have good := ok (by simp [badC]; omega)
            simp [go_sem, h0, h3, hkl, hx, hw, c1, c2, c3, c4]
            exact ⟨lenB s - (k + 1), by omega, k + 1, by omega, rfl, rfl, by simp [go_sem, h0], by simp [go_sem], by rw [hc]; simp [good]⟩
      · have good := ok (by simp [badC]; omega)
        simp [go_sem, h0, h3, hkl, hx, hw, c1, c2]
        exact ⟨lenB s - (k + 1), by omega, k + 1, by omega, rfl, rfl, by simp [go_sem, h0], by simp [go_sem], by rw [hc]; simp [good]⟩
  · have hkk : k = lenB s := by omega
    have hall : s.data.toList.all okc = true := by rw [hc, hkk]; unfold lenB; rw [List.drop_length]; rfl
    have e1 : (s.data.toList != [46]) = !decide (s = ⟨#[46]⟩) := by
      rw [Bool.eq_iff_iff]; simp [bne_iff_ne]
      constructor
      · intro h e; exact h (by rw [e])
      · intro h e; exact h (bytes_eq' e)
    have e2 : (s.data.toList != [46, 46]) = !decide (s = ⟨#[46, 46]⟩) := by
      rw [Bool.eq_iff_iff]; simp [bne_iff_ne]
      constructor
      · intro h e; exact h (by rw [e])
      · intro h e; exact h (bytes_eq' e)
    have hp : partR s = (decide (1 ≤ (lenB s : Int)) && decide ((lenB s : Int) ≤ 12) && (!decide (s = ⟨#[46]⟩)) && (!decide (s = ⟨#[46, 46]⟩))) := by
      unfold partR partL
      rw [hall, e1, e2]
      show (decide (1 ≤ lenB s) && decide (lenB s ≤ 12) && _ && _ && true) = _
      rw [Bool.and_true]
      congr 3
      congr 1
      · first | exact propext (by omega) | (rw [decide_eq_decide]; omega)
      · first | exact propext (by omega) | (rw [decide_eq_decide]; omega)
    by_cases d1 : (1 : Int) ≤ lenB s
    · by_cases d2 : (lenB s : Int) ≤ 12
      · cases d3 : decide (s = ⟨#[46]⟩) with
        | true => simp [go_sem, h0, h3, hkl, hp, d1, d2, d3]
        | false => simp [go_sem, h0, h3, hkl, hp, d1, d2, d3]
      · simp [go_sem, h0, h3, hkl, hp, d1, d2]
    · simp [go_sem, h0, h3, hkl, hp, d1]
/-! Check -/
def refC (s : ByteArray) : Bool := !decide (6 < ((splitS s).length : Int)) && (splitS s).all partR
theorem str_at {l : List ByteArray} {k : Nat} (h : k < l.length) : idxSl (fz (l.map eS)) 1 (k : Int) = .val (fp [.string l[k]]) := idx_map h fun _ => rfl
theorem cutAt_len (s : ByteArray) : ∀ (n k f : Nat), (cutAt s n k f).length ≤ n + 1
  | 0, _, _ => by simp [cutAt]
  | n + 1, k, f => by
    unfold cutAt
    split
    · have := cutAt_len s n (k + 1) (k + 1); simp; omega
    · have := cutAt_len s n (k + 1) f; omega
theorem subB_len (s : ByteArray) (a b : Nat) : lenB (subB s a b) ≤ lenB s := by
  unfold subB lenB
  rw [takeL_eq, dropL_eq]
  simp
  omega
theorem cutAt_small (s : ByteArray) : ∀ (n k f : Nat), ∀ x ∈ cutAt s n k f, lenB x ≤ lenB s
  | 0, _, f, x, hx => by simp [cutAt] at hx; rw [hx]; exact subB_len _ _ _
  | n + 1, k, f, x, hx => by
    unfold cutAt at hx
    split at hx
    · rcases List.mem_cons.1 hx with e | hx
      · rw [e]; exact subB_len _ _ _
      · exact cutAt_small s n _ _ x hx
    · exact cutAt_small s n _ _ x hx
def I127 (s : ByteArray) (m : Nat) (tm : Tr Value) (df : List DfE) (h : Hp) (nx : Nat) : Prop := ∃ k, k ≤ (splitS s).length ∧ m = (splitS s).length - k ∧ df = [] ∧ tm.get 3 = some (fz ((splitS s).map eS)) ∧ tm.get 4 = some (.int .i64 (k : Nat)) ∧ (splitS s).all partR = ((splitS s).drop k).all partR
theorem ok127 (hP : ProgOK Tryz.prog X []) (hZ : ZOk Tryz.prog Z) (h165 : zOf Z 165 = some C165) (h166 : zOf Z 166 = some C166) (hz : zOf Z 127 = none) (s : ByteArray) (hs : pathS s = true) : FnOk Tryz.prog 127 [eS s] (.int .i64 (pathI refC s)) := by
  refine fn_by hP hZ i127 hz ((splitS s).length + 1) 1 (.one .is) rfl ?_
  have hsz : lenB s < 1000000 := by simpa [pathS] using hs
  by_cases h6 : (6 : Int) < (splitS s).length
  · have hr : pathI refC s = 2 := by simp [pathI, refC, h6]
    simp [c127, go_sem, eS, eL, h165, C165, hs, h6, hr]
  · simp only [c127, go_sem, eS, eL, Nat.reduceEqDiff, List.length_map, h165, C165, hs, h6, decide_false]
    refine tot_loop (I127 s) (m := (splitS s).length) (by omega) ⟨0, by omega, by omega, rfl, by simp [go_sem], by simp [go_sem], rfl⟩ ?_
    rintro m tm df h nx ⟨k, hk, hm, rfl, h3, h4, hc⟩
    by_cases hkl : k < (splitS s).length
    · have hx := str_at hkl
      have hd : (splitS s).drop k = (splitS s)[k] :: (splitS s).drop (k + 1) := List.drop_eq_getElem_cons hkl
      have hsm : pathS (splitS s)[k] = true := by
        have := cutAt_small s (lenB s) 0 0 (splitS s)[k] (List.getElem_mem hkl)
        simp [pathS]; omega
      have hlen : (splitS s).length ≤ lenB s + 1 := cutAt_len s (lenB s) 0 0
      have hw : IntKind.wrap .i64 ((k : Int) + 1) = ((k + 1 : Nat) : Int) := by rw [wrap64 (by omega) (by omega)]; omega
      obtain ⟨x, hxe⟩ : ∃ x, (splitS s)[k] = x := ⟨_, rfl⟩
      rw [hxe] at hx hd hsm
      rw [hd] at hc
      cases hp : partR x with
      | true =>
        simp [go_sem, h3, h4, hx, hkl, hw, h166, C166, hsm, hp]
        exact ⟨(splitS s).length - (k + 1), by omega, k + 1, by omega, rfl, rfl, by simp [go_sem, h3], by simp [go_sem], by rw [hc]; simp [hp]⟩
      | false =>
        have hq : refC s = false := by unfold refC; rw [hc]; simp [hp]
        have hr : pathI refC s = 2 := by simp [pathI, hq]
        simp [go_sem, h3, h4, hx, hkl, hw, h166, C166, hsm, hp, hr]
    · have hkk : k = (splitS s).length := by omega
      rw [hkk, List.drop_length] at hc
      have hq : refC s = true := by unfold refC; rw [hc]; simp [h6]
      have hr : pathI refC s = 0 := by simp [pathI, hq]
      simp [go_sem, h3, h4, hkl, hr]
/-! as plain lists -/
def cutL : List UInt8 → Nat → Nat → Nat → List (List UInt8)
  | l, 0, _, f => [l.drop f]
  | l, n + 1, k, f => if l[k]? = some 47 then (l.drop f).take (k - f) :: cutL l n (k + 1) (k + 1) else cutL l n (k + 1) f
theorem cut_list (s : ByteArray) : ∀ (n k f : Nat), (cutAt s n k f).map (fun x => x.data.toList) = cutL s.data.toList n k f
  | 0, k, f => by
    unfold cutAt cutL subB lenB
    rw [takeL_eq, dropL_eq]
    show [List.take (s.data.toList.length - f) (List.drop f s.data.toList)] = [List.drop f s.data.toList]
    rw [← List.length_drop, List.take_length]
  | n + 1, k, f => by
    unfold cutAt cutL
    rw [Array.getElem?_toList]
    split
    · rw [List.map_cons, cut_list s n (k + 1) (k + 1)]
      unfold subB
      rw [takeL_eq, dropL_eq]
    · exact cut_list s n (k + 1) f
theorem split_pre : ∀ (p l : List UInt8), (∀ x ∈ p, x ≠ 47) → splitL (p ++ l) = match splitL l with | [] => [p] | h :: r => (p ++ h) :: r
  | [], l, _ => by
    cases h : splitL l with
    | nil => exact absurd h (splitL_ne l)
    | cons a r => simp [h]
  | c :: p, l, hp => by
    have hc : c ≠ 47 := hp c (List.mem_cons_self ..)
    show splitL (c :: (p ++ l)) = _
    rw [splitL, if_neg hc, split_pre p l fun x hx => hp x (List.mem_cons_of_mem _ hx)]
    cases h : splitL l with
    | nil => exact absurd h (splitL_ne l)
    | cons a r => rfl
theorem cutL_split (l : List UInt8) : ∀ (n k f : Nat), f ≤ k → k + n = l.length → (∀ j, f ≤ j → j < k → l[j]? ≠ some 47) → cutL l n k f = splitL (l.drop f)
  | 0, k, f, hf, hn, hj => by
    unfold cutL
    have : ∀ x ∈ l.drop f, x ≠ 47 := by
      intro x hx e
      obtain ⟨i, hi, hx⟩ := List.getElem_of_mem hx
      rw [List.getElem_drop] at hx
      rw [List.length_drop] at hi
      exact hj (f + i) (by omega) (by omega) (by rw [List.getElem?_eq_getElem (by omega), hx, e])
    have h2 := split_pre (l.drop f) [] this
    rw [List.append_nil] at h2
    rw [h2]
    simp [splitL]
  | n + 1, k, f, hf, hn, hj => by
    unfold cutL
    have hk : k < l.length := by omega
    have hd : l.drop f = (l.drop f).take (k - f) ++ (l[k] :: l.drop (k + 1)) := by
      have e1 : l[k] :: l.drop (k + 1) = (l.drop f).drop (k - f) := by
        rw [List.drop_drop, show f + (k - f) = k by omega, ← List.drop_eq_getElem_cons hk]
      rw [e1, List.take_append_drop]
    have hp : ∀ x ∈ (l.drop f).take (k - f), x ≠ 47 := by
      intro x hx e
      obtain ⟨i, hi, hx⟩ := List.getElem_of_mem hx
      rw [List.getElem_take, List.getElem_drop] at hx
      rw [List.length_take, List.length_drop] at hi
      exact hj (f + i) (by omega) (by omega) (by rw [List.getElem?_eq_getElem (by omega), hx, e])
    by_cases c : l[k]? = some 47
    · rw [if_pos c]
      have e : l[k] = 47 := by rw [List.getElem?_eq_getElem hk] at c; exact Option.some.inj c
      rw [cutL_split l n (k + 1) (k + 1) (Nat.le_refl _) (by omega) (fun j h1 h2 => by omega)]
      conv => rhs; rw [hd]
      rw [split_pre _ _ hp, e]
      simp [splitL]
    · rw [if_neg c, cutL_split l n (k + 1) f (by omega) (by omega) (fun j h1 h2 => by
        rcases Nat.lt_or_ge j k with h | h
        · exact hj j h1 h
        · have : j = k := by omega
          rw [this]; exact c)]
theorem refC_eq (s : ByteArray) : refC s = checkL s.data.toList := by
  have h1 : (splitS s).map (fun x => x.data.toList) = splitL s.data.toList := by
    unfold splitS
    rw [cut_list, cutL_split _ _ _ _ (Nat.le_refl _) (by unfold lenB; omega) (fun j h1 h2 => by omega)]
    rfl
  unfold refC checkL
  rw [← h1, List.length_map, List.all_map]
  congr 1
  rw [Bool.eq_iff_iff]
  simp
  omega
end Go.Proofs.YtpnaenbpffhjfaaGreatDoor.Z1

