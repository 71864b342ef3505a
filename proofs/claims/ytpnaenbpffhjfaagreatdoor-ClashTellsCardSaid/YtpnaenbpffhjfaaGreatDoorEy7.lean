/- The arguments of a law: slices whose elements are one cell each or structs; parts of structs. No program in sight; no conditions. -/
import Derived.Test.YtpnaenbpffhjfaaGreatDoorEy6
set_option linter.unusedVariables false
set_option linter.unusedSimpArgs false
namespace Go.Proofs.YtpnaenbpffhjfaaGreatDoor.Ev
section
variable {H : Type} {enc : TypeId × Value → H} {P : Program} {w : World} {base : Nat} {spare : Nat → Bool} {held : Bool}
/-- A slice: its elements are made out of their cells by mk. -/
theorem Rd_sliceQ {t e : TypeId} {k : Nat} {Q : List Value → Prop} (mk : List Value → Value) (hmk : ∀ us, Q us → us.length = k → cellsL (mk us) = us) (ht : P.underlying t = some (.slice e)) (hz : P.cellsOf e = k) (h1 : 1 ≤ k) (hQ : Rd enc P w base spare held e k Q) :
    Rd enc P w base spare held t 1 (fun us => ∃ rows : List (List Value), us = [fz (rows.map mk)] ∧ ∀ r ∈ rows, Q r) := fun n cs x hx hl => by
  rcases DataW.trod_slice ht hx with ⟨e1, _⟩ | ⟨a, len, cap, elems, rest, n, _, e1, _, _, hlc, _, hlen, hel, _⟩
  · subst e1
    exact ⟨_, .cons _ _ _ _ (.sl0 _ _ none 0 fun _ => rfl) .nil, [], rfl, fun r hr => by cases hr⟩
  · subst e1
    rcases Nat.eq_zero_or_pos len with h0 | h0
    · subst h0
      exact ⟨_, .cons _ _ _ _ (.sl0 _ _ (some a) cap fun h => by cases h) .nil, [], rfl, fun r hr => by cases hr⟩
    · have row : ∀ i, i < len → ∃ us ci : List Value, us.length = k ∧ ci.length = k ∧ FRL (RW w) us ci ∧ Q us ∧ ∀ j, j < k → w.cell? ((a.add (i * k)).add j) = ci[j]? := by
        intro i hi
        have h2 := hel i hi
        rw [hz] at h2
        rw [List.getElem?_eq_getElem (by omega)] at h2
        obtain ⟨ci, hc, htr⟩ := Option.bind_eq_some_iff.1 h2
        obtain ⟨l1, l2⟩ := cells_someR hc
        obtain ⟨us, u1, u2⟩ := hQ _ _ _ htr l1
        exact ⟨us, ci, by rw [u1.length, l1], l1, u1, u2, l2⟩
      obtain ⟨_, c0, _, l0, _, _, g0⟩ := row 0 h0
      have z0 : w.cell? a = c0[0]? := by
        have := g0 0 (by omega)
        simpa [Addr.add] using this
      rw [List.getElem?_eq_getElem (by omega)] at z0
      have hsp := World.cell?_spot z0
      obtain ⟨r, off, sp⟩ := a
      simp only at hsp
      subst hsp
      obtain ⟨arr, el, fr, hb⟩ : ∃ cs el fr, w.heap[r]? = some (.cells cs el fr) := by
        unfold World.cell? at z0
        split at z0
        · rename_i c x y hb; exact ⟨_, _, _, hb⟩
        · cases z0
      have hadd : ∀ x y : Nat, (Addr.add (Addr.add ⟨r, off, none⟩ x) y) = ⟨r, off + (x + y), none⟩ := by
        intro x y
        simp only [Addr.add]
        split <;> split <;> simp_all <;> omega
      have all : ∀ m, m ≤ len → ∃ (rows : List (List Value)) (cs' : List Value), rows.length = m ∧ cs'.length = m * k ∧ (∀ r ∈ rows, r.length = k ∧ Q r) ∧ FRL (RW w) (flatC (rows.map mk)) cs' ∧ ∀ j, j < m * k → arr[off + j]? = cs'[j]? := by
        intro m
        induction m with
        | zero => intro _; exact ⟨[], [], rfl, by simp, (fun r hr => by cases hr), .nil, (fun j hj => by omega)⟩
        | succ m ih =>
          intro hm
          obtain ⟨rows, cs', r1, r2, r3, r4, r5⟩ := ih (by omega)
          obtain ⟨us, ci, l1, l2, u1, u2, l3⟩ := row m (by omega)
          refine ⟨rows ++ [us], cs' ++ ci, by simp [r1], by rw [List.length_append, r2, l2, Nat.succ_mul], ?_, ?_, ?_⟩
          · intro q hq
            rcases List.mem_append.1 hq with h | h
            · exact r3 q h
            · rw [List.mem_singleton.1 h]; exact ⟨l1, u2⟩
          · rw [List.map_append, flatC_app]
            refine FRL.append r4 ?_
            show FRL (RW w) (flatC [mk us]) ci
            have : flatC [mk us] = us := by unfold flatC; simp [hmk us u2 l1]
            rw [this]; exact u1
          · intro j hj
            rcases Nat.lt_or_ge j (m * k) with h | h
            · rw [List.getElem?_append_left (by omega)]; exact r5 j h
            · rw [List.getElem?_append_right (by omega), r2]
              have := l3 (j - m * k) (by rw [Nat.succ_mul] at hj; omega)
              rw [hadd, cell_at hb] at this
              rw [← this]; congr 1; omega
      obtain ⟨rows, cs', r1, r2, r3, r4, r5⟩ := all len (Nat.le_refl _)
      refine ⟨_, .cons _ _ _ _ ?_ .nil, rows, rfl, fun q hq => (r3 q hq).2⟩
      have hsz : off + cs'.length ≤ arr.size := by
        have h2 : cs'.length - 1 < len * k := by
          have : 1 ≤ len * k := Nat.mul_pos h0 h1
          omega
        have h3 := r5 (cs'.length - 1) h2
        rw [List.getElem?_eq_getElem (by have : 1 ≤ len * k := Nat.mul_pos h0 h1; omega)] at h3
        have := (Array.getElem?_eq_some_iff.1 h3).1
        omega
      have := FR.sl (R := RW w) "" ⟨[]⟩ (rows.map mk) cs' r off k cap ⟨arr, el, fr, hb, hsz, fun j v hj => by
        have hlt := (List.getElem?_eq_some_iff.1 hj).1
        rw [r5 j (by omega)]; exact hj⟩ r4 (fun x hx => by
          obtain ⟨q, hq, rfl⟩ := List.mem_map.1 hx
          rw [hmk q (r3 q hq).2 (r3 q hq).1]; exact (r3 q hq).1) (by rw [List.length_map, r1]; exact hlc)
      rw [List.length_map, r1] at this
      exact this
theorem isFs_some {o : Option TypeDesc} {n : List (Nat × Nat)} (h : isFs o n = true) : ∃ fs, o = some (.struct fs) := by
  unfold isFs at h
  split at h
  · exact ⟨_, rfl⟩
  · cases h
theorem parts2 {Q1 Q2 : List Value → Prop} {us : List Value} (h : Parts [Q1, Q2] us) : ∃ a b, us = a ++ b ∧ Q1 a ∧ Q2 b := by
  cases h with
  | cons _ _ a b h1 h => cases h with
    | cons _ _ c d h2 h => cases h; exact ⟨a, c, by simp, h1, h2⟩
theorem parts3 {Q1 Q2 Q3 : List Value → Prop} {us : List Value} (h : Parts [Q1, Q2, Q3] us) : ∃ a b c, us = a ++ (b ++ c) ∧ Q1 a ∧ Q2 b ∧ Q3 c := by
  cases h with
  | cons _ _ a b h1 h => obtain ⟨c, d, rfl, h2, h3⟩ := parts2 h; exact ⟨a, c, d, rfl, h1, h2, h3⟩
theorem parts4 {Q1 Q2 Q3 Q4 : List Value → Prop} {us : List Value} (h : Parts [Q1, Q2, Q3, Q4] us) : ∃ a b c d, us = a ++ (b ++ (c ++ d)) ∧ Q1 a ∧ Q2 b ∧ Q3 c ∧ Q4 d := by
  cases h with
  | cons _ _ a b h1 h => obtain ⟨c, d, e, rfl, h2, h3, h4⟩ := parts3 h; exact ⟨a, c, d, e, rfl, h1, h2, h3, h4⟩
/-- Rows that are data each: a list of data. -/
theorem rows_data {α : Type} {f : α → List Value} : ∀ {rows : List (List Value)}, (∀ r ∈ rows, ∃ a, r = f a) → ∃ l : List α, rows = l.map f
  | [], _ => ⟨[], rfl⟩
  | r :: rows, h => by
    obtain ⟨a, e⟩ := h r (List.mem_cons_self ..)
    obtain ⟨l, e2⟩ := rows_data fun q hq => h q (List.mem_cons_of_mem _ hq)
    exact ⟨a :: l, by rw [e, e2]; rfl⟩
end
end Go.Proofs.YtpnaenbpffhjfaaGreatDoor.Ev
