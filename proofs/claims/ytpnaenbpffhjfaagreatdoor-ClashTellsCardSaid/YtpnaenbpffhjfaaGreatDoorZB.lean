/- Texts, paths, pasts, events at all inputs. No conditions. -/
import Derived.Test.YtpnaenbpffhjfaaGreatDoorZA
set_option linter.unusedVariables false
set_option linter.unusedSimpArgs false
set_option linter.all false
namespace Go.Proofs.YtpnaenbpffhjfaaGreatDoor.Z1
open Go.Proofs.YtpnaenbpffhjfaaGreatDoor.Ev
set_option maxHeartbeats 1000000
set_option maxRecDepth 10000
variable {X : List (Nat × Ext)} {Z : List (Nat × FzC)}
/-! Texts -/
def hasPre (s p : ByteArray) : Bool := decide (lenB p ≤ lenB s) && decide (subB s 0 (lenB p) = p)
noncomputable def C180 : FzC := ⟨F2 eS eS fun s p => .bool (hasPre s p), [.one .is, .one .is]⟩
theorem ok180 (hP : ProgOK Tryz.prog X []) (hZ : ZOk Tryz.prog Z) (hz : zOf Z 180 = none) (s p : ByteArray) : FnOk Tryz.prog 180 [eS s, eS p] (.bool (hasPre s p)) := by
  refine fn_by hP hZ i180 hz 10 1 (.one .is) rfl ?_
  by_cases h1 : lenB p ≤ lenB s
  · simp [c180, go_sem, eS, hasPre, h1]
  · simp [c180, go_sem, eS, hasPre, h1]
theorem ok142 (hP : ProgOK Tryz.prog X []) (hZ : ZOk Tryz.prog Z) (h180 : zOf Z 180 = some C180) (hz : zOf Z 142 = none) (s p : ByteArray) : FnOk Tryz.prog 142 [eS s, eS p] (.bool (hasPre s p)) := by
  refine fn_by hP hZ i142 hz 10 1 (.one .is) rfl ?_
  simp [c142, go_sem, eS, h180, C180]
def cutP (s p : ByteArray) : Value := if hasPre s p then .tuple ⟨[.string (subB s (lenB p) (lenB s)), .bool true]⟩ else .tuple ⟨[.string s, .bool false]⟩
noncomputable def C179 : FzC := ⟨F2 eS eS cutP, [.one .is, .one .is]⟩
theorem ok179 (hP : ProgOK Tryz.prog X []) (hZ : ZOk Tryz.prog Z) (h180 : zOf Z 180 = some C180) (hz : zOf Z 179 = none) (s p : ByteArray) : FnOk Tryz.prog 179 [eS s, eS p] (cutP s p) := by
  refine fn_by hP hZ i179 hz 10 1 (.one .is) (by unfold cutP; split <;> rfl) ?_
  cases h1 : hasPre s p with
  | true =>
    have hl : lenB p ≤ lenB s := by unfold hasPre at h1; simp at h1; exact h1.1
    simp [c179, go_sem, eS, h180, C180, h1, hl, cutP]
  | false => simp [c179, go_sem, eS, h180, C180, h1, cutP]
theorem ok141 (hP : ProgOK Tryz.prog X []) (hZ : ZOk Tryz.prog Z) (h179 : zOf Z 179 = some C179) (hz : zOf Z 141 = none) (s p : ByteArray) : FnOk Tryz.prog 141 [eS s, eS p] (cutP s p) := by
  refine fn_by hP hZ i141 hz 10 1 (.one .is) (by unfold cutP; split <;> rfl) ?_
  cases h1 : hasPre s p with
  | true => simp [c141, go_sem, eS, h179, C179, h1, cutP]
  | false => simp [c141, go_sem, eS, h179, C179, h1, cutP]
/-! path -/
def pathS (s : ByteArray) : Bool := decide (lenB s < 1000000)
def pathI (chk : ByteArray → Bool) (s : ByteArray) : Int := if chk s then 0 else 2
noncomputable def C38 (chk : ByteArray → Bool) : FzC := ⟨F1p eS pathS fun s => .int .i64 (pathI chk s), [.one .is]⟩
def undB (chk : ByteArray → Bool) (a b : ByteArray) : Bool := chk a && chk b && (hasPre b a && hasPre (subB b (lenB a) (lenB b)) ⟨#[47]⟩)
theorem ok86 (chk : ByteArray → Bool) (hP : ProgOK Tryz.prog X []) (hZ : ZOk Tryz.prog Z) (h38 : zOf Z 38 = some (C38 chk)) (h141 : zOf Z 141 = some C179) (h142 : zOf Z 142 = some C180) (hz : zOf Z 86 = none) (a b : ByteArray) (ha : pathS a = true) (hb : pathS b = true) : FnOk Tryz.prog 86 [eS a, eS b] (.bool (undB chk a b)) := by
  refine fn_by hP hZ i86 hz 10 1 (.one .is) rfl ?_
  cases c1 : chk a with
  | false => simp [c86, go_sem, eS, h38, C38, c1, ha, hb, pathI, undB]
  | true =>
    cases c2 : chk b with
    | false => simp [c86, go_sem, eS, h38, C38, c1, c2, ha, hb, pathI, undB]
    | true =>
      cases c3 : hasPre b a with
      | false => simp [c86, go_sem, eS, h38, C38, h141, h142, C179, C180, cutP, c1, c2, c3, ha, hb, pathI, undB]
      | true => simp [c86, go_sem, eS, h38, C38, h141, h142, C179, C180, cutP, c1, c2, c3, ha, hb, pathI, undB]
theorem pre1 (b : ByteArray) (n : Nat) : hasPre (subB b n (lenB b)) ⟨#[47]⟩ = decide (b.data[n]? = some 47) := by
  have h : (hasPre (subB b n (lenB b)) ⟨#[47]⟩ = true) ↔ b.data[n]? = some 47 := by
    unfold hasPre
    rw [Bool.and_eq_true, decide_eq_true_eq, decide_eq_true_eq, subB_pre]
    unfold subB lenB
    rw [takeL_eq, dropL_eq]
    have e1 : List.take (b.data.toList.length - n) (List.drop n b.data.toList) = List.drop n b.data.toList := by
      rw [← List.length_drop]; exact List.take_length
    show [47] <+: List.take (b.data.toList.length - n) (List.drop n b.data.toList) ↔ _
    rw [e1, ← Array.getElem?_toList]
    by_cases hn : n < b.data.toList.length
    · rw [List.drop_eq_getElem_cons hn, List.getElem?_eq_getElem hn]
      simp [eq_comm]
    · rw [List.drop_eq_nil_of_le (by omega), List.getElem?_eq_none (by omega)]
      simp
  cases hc : hasPre (subB b n (lenB b)) ⟨#[47]⟩ with
  | true => exact (decide_eq_true (h.1 hc)).symm
  | false => exact (decide_eq_false fun e => by rw [h.2 e] at hc; cases hc).symm
theorem ok132 (chk : ByteArray → Bool) (hP : ProgOK Tryz.prog X []) (hZ : ZOk Tryz.prog Z) (h127 : zOf Z 127 = some (C38 chk)) (hz : zOf Z 132 = none) (a b : ByteArray) (ha : pathS a = true) (hb : pathS b = true) : FnOk Tryz.prog 132 [eS a, eS b] (.bool (undB chk a b)) := by
  refine fn_by hP hZ i132 hz 10 1 (.one .is) rfl ?_
  cases c1 : chk a with
  | false => simp [c132, go_sem, eS, h127, C38, c1, ha, hb, pathI, undB]
  | true =>
    cases c2 : chk b with
    | false => simp [c132, go_sem, eS, h127, C38, c1, c2, ha, hb, pathI, undB]
    | true =>
      by_cases c3 : lenB a < lenB b
      · have hl : lenB a ≤ lenB b := by omega
        by_cases c4 : subB b 0 (lenB a) = a
        · have hlt : lenB a < b.data.size := by rw [lenB_eq b] at c3; exact c3
          obtain ⟨x, hx⟩ : ∃ x, b.data[lenB a]? = some x := ⟨_, Array.getElem?_eq_getElem hlt⟩
          have hu : undB chk a b = decide (x = 47) := by simp [undB, c1, c2, pre1, hx]; simp [hasPre, hl, c4]
          by_cases c5 : x = 47
          · subst c5
            simp [c132, go_sem, eS, h127, C38, c1, c2, c3, c4, hl, ha, hb, pathI, hu, hx]
          · have c6 : ¬ ((x.toNat : Int) = 47) := fun e => c5 (UInt8.toNat_inj.1 (by show x.toNat = 47; omega))
            simp [c132, go_sem, eS, h127, C38, c1, c2, c3, c4, hl, ha, hb, pathI, hu, hx, c5, c6]
        · simp [c132, go_sem, eS, h127, C38, c1, c2, c3, c4, hl, ha, hb, pathI, undB, hasPre]
      · have hu : undB chk a b = false := by
          rw [undB, c1, c2, pre1, Array.getElem?_eq_none (by rw [lenB_eq] at c3; exact Nat.le_of_not_lt c3)]; simp
        simp [c132, go_sem, eS, h127, C38, c1, c2, c3, ha, hb, pathI, hu]
end Go.Proofs.YtpnaenbpffhjfaaGreatDoor.Z1

namespace Go.Proofs.YtpnaenbpffhjfaaGreatDoor.Z1
open Go.Proofs.YtpnaenbpffhjfaaGreatDoor.Ev
set_option maxHeartbeats 1000000
set_option maxRecDepth 10000
variable {X : List (Nat × Ext)} {Z : List (Nat × FzC)}
/-! past -/
def badOne (x : Span) : Bool := decide (x.n < 1) || decide (200 < x.n) || decide (x.f < 1) || decide (x.t < x.f) || decide (2147483647 < x.t)
def badTwo (p x : Span) : Bool := decide (x.n < p.n) || decide (x.n = p.n) && decide (x.f ≤ p.t + 1)
def chkS : Option Span → List Span → Bool
  | _, [] => true
  | none, x :: l => !badOne x && chkS (some x) l
  | some p, x :: l => !badOne x && !badTwo p x && chkS (some x) l
def badTwoO : Option Span → Span → Bool
  | none, _ => false
  | some p, x => badTwo p x
def pastCheck (l : List Span) : Int := if 4000 < l.length then 2 else if chkS none l then 0 else 2
def I143 (l : List Span) (m : Nat) (tm : Tr Value) (df : List DfE) (h : Hp) (nx : Nat) : Prop := ∃ k, k ≤ l.length ∧ m = l.length - k ∧ df = [] ∧ tm.get 0 = some (fz (l.map eSpan)) ∧ tm.get 8 = some (fz (l.map eSpan)) ∧ tm.get 9 = some (.int .i64 l.length) ∧ tm.get 10 = some (.int .i64 k)
      ∧ ∃ p : Option Span, (k = 0 → p = none) ∧ (0 < k → p = l[k-1]?) ∧ (∀ q, p = some q → badOne q = false) ∧ chkS none l = chkS p (l.drop k)
theorem ok143 (hP : ProgOK Tryz.prog X []) (hZ : ZOk Tryz.prog Z) (hz : zOf Z 143 = none) (l : List Span) : FnOk Tryz.prog 143 [eL eSpan l] (.int .i64 (pastCheck l)) := by
  refine fn_by hP hZ i143 hz (l.length + 1) 1 (.one .is) rfl ?_
  by_cases h4 : (4000 : Int) < l.length
  · have h4' : 4000 < l.length := by omega
    simp [c143, go_sem, eL, h4, pastCheck, h4']
  · have h4' : ¬ 4000 < l.length := by omega
    simp only [c143, go_sem, eL, Nat.reduceEqDiff, List.length_map, h4, decide_false]
    refine tot_loop (I143 l) (m := l.length) (by omega) ⟨0, by omega, by omega, rfl, by simp [go_sem], by simp [go_sem], by simp [go_sem], by simp [go_sem], none, fun _ => rfl, fun h => (by omega), fun q h => (by cases h), rfl⟩ ?_
    rintro m tm df h nx ⟨k, hk, hm, rfl, h0, h8, h9, h10, p, hp0, hp1, hpb, hc⟩
    by_cases hkl : k < l.length
    · have hx := span_at hkl
      have hd : l.drop k = l[k] :: l.drop (k + 1) := List.drop_eq_getElem_cons hkl
      have hw : IntKind.wrap .i64 ((k : Int) + 1) = ((k + 1 : Nat) : Int) := by rw [wrap64 (by omega) (by omega)]; omega
      obtain ⟨x, hxe⟩ : ∃ x, l[k] = x := ⟨_, rfl⟩
      rw [hxe] at hx hd
      rw [hd] at hc
      have fin : badOne x = true → pastCheck l = 2 := fun hb => by
        have : chkS none l = false := by rw [hc]; cases p <;> simp [chkS, hb]
        simp [pastCheck, this]
      by_cases c1 : x.n < 1
      · have := fin (by simp [badOne, c1])
        simp [go_sem, h8, h9, h10, hx, hkl, c1, this]
      by_cases c2 : 200 < x.n
      · have := fin (by simp [badOne, c2])
        simp [go_sem, h8, h9, h10, hx, hkl, c1, c2, this]
      by_cases c3 : x.f < 1
      · have := fin (by simp [badOne, c3])
        simp [go_sem, h8, h9, h10, hx, hkl, c1, c2, c3, this]
      by_cases c4 : x.t < x.f
      · have := fin (by simp [badOne, c4])
        simp [go_sem, h8, h9, h10, hx, hkl, c1, c2, c3, c4, this]
      by_cases c5 : 2147483647 < x.t
      · have := fin (by simp [badOne, c5])
        simp [go_sem, h8, h9, h10, hx, hkl, c1, c2, c3, c4, c5, this]
      have hb : badOne x = false := by simp [badOne, c1, c2, c3, c4, c5]
      have next : ∀ tm' h' nx', badTwoO p x = false → tm'.get 0 = some (fz (l.map eSpan)) → tm'.get 8 = some (fz (l.map eSpan)) → tm'.get 9 = some (.int .i64 l.length) → tm'.get 10 = some (.int .i64 ((k : Int) + 1)) → ∃ m', m' < m ∧ I143 l m' tm' [] h' nx' := by
        intro tm' h' nx' hb2 g0 g8 g9 g10
        refine ⟨l.length - (k + 1), by omega, k + 1, by omega, rfl, rfl, g0, g8, g9, by simpa using g10, some x, fun h => by omega, fun _ => by simp [hxe, hkl], fun q hq => by cases hq; exact hb, ?_⟩
        rw [hc]
        cases p with
        | none => simp [chkS, hb]
        | some q => simp [badTwoO] at hb2; simp [chkS, hb, hb2]
      by_cases k0 : 0 < k
      · obtain ⟨q, hq⟩ : ∃ q, l[k-1]'(by omega) = q := ⟨_, rfl⟩
        have hp : p = some q := by rw [hp1 k0, List.getElem?_eq_getElem (by omega), hq]
        subst hp
        have hq1 := hpb q rfl
        simp only [badOne, Bool.or_eq_false_iff, decide_eq_false_iff_not] at hq1
        have hx2 := span_at (l := l) (k := k - 1) (by omega)
        rw [hq] at hx2
        have hw2 : IntKind.wrap .i64 ((k : Int) - 1) = ((k - 1 : Nat) : Int) := by rw [wrap64 (by omega) (by omega)]; omega
        have hw3 : IntKind.wrap .i64 (q.t + 1) = q.t + 1 := wrap64 (by omega) (by omega)
        have fin2 : badTwo q x = true → pastCheck l = 2 := fun hb => by
          have : chkS none l = false := by rw [hc]; simp [chkS, hb]
          simp [pastCheck, this]
        by_cases d1 : x.n < q.n
        · have := fin2 (by simp [badTwo, d1])
          simp [go_sem, h0, h8, h9, h10, hx, hx2, hkl, c1, c2, c3, c4, c5, hw, hw2, hw3, k0, d1, this]
        by_cases d2 : x.n = q.n
        · by_cases d3 : x.f ≤ q.t + 1
          · have := fin2 (by simp [badTwo, d2, d3])
            simp [go_sem, h0, h8, h9, h10, hx, hx2, hkl, c1, c2, c3, c4, c5, hw, hw2, hw3, k0, d2.symm, d3, this]
          · simp [go_sem, h0, h8, h9, h10, hx, hx2, hkl, c1, c2, c3, c4, c5, hw, hw2, hw3, k0, d2.symm, d3]
            exact next _ _ _ (by simp [badTwoO, badTwo, d2, d3]) (by simp [go_sem, h0]) (by simp [go_sem, h8]) (by simp [go_sem, h9]) (by simp [go_sem])
        · simp [go_sem, h0, h8, h9, h10, hx, hx2, hkl, c1, c2, c3, c4, c5, hw, hw2, hw3, k0, d1, d2]
          exact next _ _ _ (by simp [badTwoO, badTwo, d1, d2]) (by simp [go_sem, h0]) (by simp [go_sem, h8]) (by simp [go_sem, h9]) (by simp [go_sem])
      · have hp := hp0 (by omega)
        subst hp
        simp [go_sem, h0, h8, h9, h10, hx, hkl, c1, c2, c3, c4, c5, hw, k0]
        exact next _ _ _ rfl (by simp [go_sem, h0]) (by simp [go_sem, h8]) (by simp [go_sem, h9]) (by simp [go_sem])
    · simp [go_sem, h8, h9, h10, hkl]
      have hkk : k = l.length := by omega
      subst hkk
      rw [List.drop_length] at hc
      have : chkS none l = true := by rw [hc]; cases p <;> rfl
      simp [pastCheck, this, h4']
noncomputable def C143 : FzC := ⟨F1 (eL eSpan) fun l => .int .i64 (pastCheck l), [.one (.sl true 3)]⟩
end Go.Proofs.YtpnaenbpffhjfaaGreatDoor.Z1

namespace Go.Proofs.YtpnaenbpffhjfaaGreatDoor.Z1
open Go.Proofs.YtpnaenbpffhjfaaGreatDoor.Ev
set_option maxHeartbeats 1000000
set_option maxRecDepth 10000
variable {X : List (Nat × Ext)} {Z : List (Nat × FzC)}
/-! past -/
def I129 (l : List Span) (m : Nat) (tm : Tr Value) (df : List DfE) (h : Hp) (nx : Nat) : Prop := ∃ k, k ≤ l.length ∧ m = l.length - k ∧ df = [] ∧ tm.get 0 = some (fz (l.map eSpan)) ∧ tm.get 3 = some (.int .i64 k)
      ∧ ∃ p : Option Span, (k = 0 → p = none) ∧ (0 < k → p = l[k-1]?) ∧ (∀ q, p = some q → badOne q = false) ∧ chkS none l = chkS p (l.drop k)
theorem ok129 (hP : ProgOK Tryz.prog X []) (hZ : ZOk Tryz.prog Z) (hz : zOf Z 129 = none) (l : List Span) : FnOk Tryz.prog 129 [eL eSpan l] (.int .i64 (pastCheck l)) := by
  refine fn_by hP hZ i129 hz (l.length + 1) 1 (.one .is) rfl ?_
  by_cases h4 : (4000 : Int) < l.length
  · have h4' : 4000 < l.length := by omega
    simp [c129, go_sem, eL, h4, pastCheck, h4']
  · have h4' : ¬ 4000 < l.length := by omega
    simp only [c129, go_sem, eL, Nat.reduceEqDiff, List.length_map, h4, decide_false]
    refine tot_loop (I129 l) (m := l.length) (by omega) ⟨0, by omega, by omega, rfl, by simp [go_sem], by simp [go_sem], none, fun _ => rfl, fun h => (by omega), fun q h => (by cases h), rfl⟩ ?_
    rintro m tm df h nx ⟨k, hk, hm, rfl, h0, h3, p, hp0, hp1, hpb, hc⟩
    by_cases hkl : k < l.length
    · have hx := span_at hkl
      have hd : l.drop k = l[k] :: l.drop (k + 1) := List.drop_eq_getElem_cons hkl
      have hw : IntKind.wrap .i64 ((k : Int) + 1) = ((k + 1 : Nat) : Int) := by rw [wrap64 (by omega) (by omega)]; omega
      obtain ⟨x, hxe⟩ : ∃ x, l[k] = x := ⟨_, rfl⟩
      rw [hxe] at hx hd
      rw [hd] at hc
      have fin : badOne x = true → pastCheck l = 2 := fun hb => by
        have : chkS none l = false := by rw [hc]; cases p <;> simp [chkS, hb]
        simp [pastCheck, this]
      by_cases c1 : x.n < 1
      · have := fin (by simp [badOne, c1])
        simp [go_sem, h0, h3, hx, hkl, c1, this]
      by_cases c2 : 200 < x.n
      · have := fin (by simp [badOne, c2])
        simp [go_sem, h0, h3, hx, hkl, c1, c2, this]
      by_cases c3 : x.f < 1
      · have := fin (by simp [badOne, c3])
        simp [go_sem, h0, h3, hx, hkl, c1, c2, c3, this]
      by_cases c4 : x.t < x.f
      · have := fin (by simp [badOne, c4])
        simp [go_sem, h0, h3, hx, hkl, c1, c2, c3, c4, this]
      by_cases c5 : 2147483647 < x.t
      · have := fin (by simp [badOne, c5])
        simp [go_sem, h0, h3, hx, hkl, c1, c2, c3, c4, c5, this]
      have hb : badOne x = false := by simp [badOne, c1, c2, c3, c4, c5]
      have next : ∀ tm' h' nx', badTwoO p x = false → tm'.get 0 = some (fz (l.map eSpan)) → tm'.get 3 = some (.int .i64 ((k : Int) + 1)) → ∃ m', m' < m ∧ I129 l m' tm' [] h' nx' := by
        intro tm' h' nx' hb2 g0 g3
        refine ⟨l.length - (k + 1), by omega, k + 1, by omega, rfl, rfl, g0, by simpa using g3, some x, fun h => by omega, fun _ => by simp [hxe, hkl], fun q hq => by cases hq; exact hb, ?_⟩
        rw [hc]
        cases p with
        | none => simp [chkS, hb]
        | some q => simp [badTwoO] at hb2; simp [chkS, hb, hb2]
      by_cases k0 : 0 < k
      · obtain ⟨q, hq⟩ : ∃ q, l[k-1]'(by omega) = q := ⟨_, rfl⟩
        have hp : p = some q := by rw [hp1 k0, List.getElem?_eq_getElem (by omega), hq]
        subst hp
        have hq1 := hpb q rfl
        simp only [badOne, Bool.or_eq_false_iff, decide_eq_false_iff_not] at hq1
        have hx2 := span_at (l := l) (k := k - 1) (by omega)
        rw [hq] at hx2
        have hw2 : IntKind.wrap .i64 ((k : Int) - 1) = ((k - 1 : Nat) : Int) := by rw [wrap64 (by omega) (by omega)]; omega
        have hw3 : IntKind.wrap .i64 (q.t + 1) = q.t + 1 := wrap64 (by omega) (by omega)
        have fin2 : badTwo q x = true → pastCheck l = 2 := fun hb => by
          have : chkS none l = false := by rw [hc]; simp [chkS, hb]
          simp [pastCheck, this]
        by_cases d1 : x.n < q.n
        · have := fin2 (by simp [badTwo, d1])
          simp [go_sem, h0, h3, hx, hx2, hkl, c1, c2, c3, c4, c5, hw, hw2, hw3, k0, d1, this]
        by_cases d2 : x.n = q.n
        · by_cases d3 : x.f ≤ q.t + 1
          · have := fin2 (by simp [badTwo, d2, d3])
            simp [go_sem, h0, h3, hx, hx2, hkl, c1, c2, c3, c4, c5, hw, hw2, hw3, k0, d2.symm, d3, this]
          · simp [go_sem, h0, h3, hx, hx2, hkl, c1, c2, c3, c4, c5, hw, hw2, hw3, k0, d2.symm, d3]
            exact next _ _ _ (by simp [badTwoO, badTwo, d2, d3]) (by simp [go_sem, h0]) (by simp [go_sem])
        · simp [go_sem, h0, h3, hx, hx2, hkl, c1, c2, c3, c4, c5, hw, hw2, hw3, k0, d1, d2]
          exact next _ _ _ (by simp [badTwoO, badTwo, d1, d2]) (by simp [go_sem, h0]) (by simp [go_sem])
      · have hp := hp0 (by omega)
        subst hp
        simp [go_sem, h0, h3, hx, hkl, c1, c2, c3, c4, c5, hw, k0]
        exact next _ _ _ rfl (by simp [go_sem, h0]) (by simp [go_sem])
    · simp [go_sem, h0, h3, hkl]
      have hkk : k = l.length := by omega
      subst hkk
      rw [List.drop_length] at hc
      have : chkS none l = true := by rw [hc]; cases p <;> rfl
      simp [pastCheck, this, h4']
end Go.Proofs.YtpnaenbpffhjfaaGreatDoor.Z1

namespace Go.Proofs.YtpnaenbpffhjfaaGreatDoor.Z1
open Go.Proofs.YtpnaenbpffhjfaaGreatDoor.Ev
set_option maxHeartbeats 1000000
set_option maxRecDepth 10000
variable {X : List (Nat × Ext)} {Z : List (Nat × FzC)}
/-! past.Has -/
def ePD (d : Dot) : Value := fp [.int .i64 d.n, .int .i64 d.s]
theorem ePD_inj (a b : Dot) (h : ePD a = ePD b) : a = b := by
  cases a; cases b; simp [ePD, fp] at h; simp [h]
@[go_sem] theorem dec_pd (n s : Int) : dec ePD (fp [.int .i64 n, .int .i64 s]) = some ⟨n, s⟩ := dec_enc ePD_inj ⟨n, s⟩
@[go_sem] theorem dec_span (n f t : Int) : dec eSpan (.agg ⟨[.int .i64 n, .int .i64 f, .int .i64 t]⟩) = some ⟨n, f, t⟩ := dec_enc eSpan_inj ⟨n, f, t⟩
def eF145 (d : Dot) : Value := .func (.func 145) ⟨[]⟩ ⟨[fp [.int .i64 d.n, .int .i64 d.s]]⟩
theorem eF145_inj (a b : Dot) (h : eF145 a = eF145 b) : a = b := by
  cases a; cases b; simp [eF145, fp] at h; simp [h]
@[go_sem] theorem dec_f145 (n s : Int) : dec eF145 (.func (.func 145) ⟨[]⟩ ⟨[fp [.int .i64 n, .int .i64 s]]⟩) = some ⟨n, s⟩ := dec_enc eF145_inj ⟨n, s⟩
def inSp (x : Span) (d : Dot) : Bool := decide (x.n = d.n) && decide (x.f ≤ d.s) && decide (d.s ≤ x.t)
noncomputable def C145 : FzC := ⟨F2 eSpan ePD fun x d => .bool (inSp x d), [.one .is, .one .is]⟩
theorem ok145 (hP : ProgOK Tryz.prog X []) (hZ : ZOk Tryz.prog Z) (hz : zOf Z 145 = none) (x : Span) (d : Dot) : FnOk Tryz.prog 145 [eSpan x, ePD d] (.bool (inSp x d)) := by
  refine fn_by hP hZ i145 hz 10 1 (.one .is) rfl ?_
  by_cases c1 : x.n = d.n
  · by_cases c2 : x.f ≤ d.s
    · simp [c145, go_sem, eSpan, ePD, inSp, c1, c2]
    · simp [c145, go_sem, eSpan, ePD, inSp, c1, c2]
  · simp [c145, go_sem, eSpan, ePD, inSp, c1]
def fnd (d : Dot) : List Span → Int → Int
  | [], _ => -1
  | x :: l, k => if inSp x d then k else fnd d l (k + 1)
noncomputable def C181 : FzC := ⟨F2p (eL eSpan) eF145 (fun l _ => decide (l.length < 1000000)) fun l d => .int .i64 (fnd d l 0), [.one (.sl true 3), .one (.fn [2])]⟩
def I181 (d : Dot) (l : List Span) (m : Nat) (tm : Tr Value) (df : List DfE) (h : Hp) (nx : Nat) : Prop := ∃ k, k ≤ l.length ∧ m = l.length - k ∧ df = [] ∧ tm.get 0 = some (fz (l.map eSpan)) ∧ tm.get 1 = some (eF145 d) ∧ tm.get 7 = some (.int .i64 l.length) ∧ tm.get 8 = some (.int .i64 k) ∧ fnd d l 0 = fnd d (l.drop k) k
theorem ok181 (hP : ProgOK Tryz.prog X []) (hZ : ZOk Tryz.prog Z) (h145 : zOf Z 145 = some C145) (hz : zOf Z 181 = none) (l : List Span) (d : Dot) (hl : l.length < 1000000) : FnOk Tryz.prog 181 [eL eSpan l, eF145 d] (.int .i64 (fnd d l 0)) := by
  refine fn_by hP hZ i181 hz (l.length + 1) 1 (.one .is) rfl ?_
  simp only [c181, go_sem, eL, Nat.reduceEqDiff, List.length_map]
  refine tot_loop (I181 d l) (m := l.length) (by omega) ⟨0, by omega, by omega, rfl, by simp [go_sem], by simp [go_sem], by simp [go_sem], by simp [go_sem], rfl⟩ ?_
  rintro m tm df h nx ⟨k, hk, hm, rfl, h0, h1, h7, h8, hc⟩
  by_cases hkl : k < l.length
  · have hx := span_at hkl
    have hd : l.drop k = l[k] :: l.drop (k + 1) := List.drop_eq_getElem_cons hkl
    have hw : IntKind.wrap .i64 ((k : Int) + 1) = ((k + 1 : Nat) : Int) := by rw [wrap64 (by omega) (by omega)]; omega
    obtain ⟨x, hxe⟩ : ∃ x, l[k] = x := ⟨_, rfl⟩
    rw [hxe] at hx hd
    rw [hd] at hc
    cases c : inSp x d with
    | true =>
      have hf : fnd d l 0 = k := by rw [hc]; simp [fnd, c]
      simp [go_sem, h0, h1, h7, h8, hx, hkl, hw, h145, C145, eF145, c, hf]
    | false =>
      simp [go_sem, h0, h1, h7, h8, hx, hkl, hw, h145, C145, eF145, c]
      exact ⟨l.length - (k + 1), by omega, k + 1, by omega, rfl, rfl, by simp [go_sem, h0], by simp [go_sem, h1, eF145], by simp [go_sem, h7], by simp [go_sem], by rw [hc]; simp [fnd, c]⟩
  · simp [go_sem, h0, h1, h7, h8, hkl]
    have hkk : k = l.length := by omega
    rw [hkk, List.drop_length] at hc
    rw [hc]; rfl
def anyS (d : Dot) (l : List Span) : Bool := l.any fun x => inSp x d
theorem fnd_any (d : Dot) : ∀ (l : List Span) (k : Int), 0 ≤ k → decide (0 ≤ fnd d l k) = anyS d l
  | [], k, _ => by simp [fnd, anyS]
  | x :: l, k, h => by
    unfold fnd
    cases c : inSp x d with
    | true => simp [anyS, c, h]
    | false => simpa [anyS, c] using fnd_any d l (k + 1) (by omega)
noncomputable def C144 : FzC := ⟨F2p (eL eSpan) eF145 (fun l _ => decide (l.length < 1000000)) fun l d => .bool (anyS d l), [.one (.sl true 3), .one (.fn [2])]⟩
theorem ok144 (hP : ProgOK Tryz.prog X []) (hZ : ZOk Tryz.prog Z) (h181 : zOf Z 181 = some C181) (hz : zOf Z 144 = none) (l : List Span) (d : Dot) (hl : l.length < 1000000) : FnOk Tryz.prog 144 [eL eSpan l, eF145 d] (.bool (anyS d l)) := by
  refine fn_by hP hZ i144 hz 10 1 (.one .is) rfl ?_
  have hf := fnd_any d l 0 (by omega)
  simp [c144, go_sem, eL, eF145, h181, C181, hl, hf]
def hasS (l : List Span) (d : Dot) : Bool := decide (pastCheck l = 0) && anyS d l
noncomputable def C87 : FzC := ⟨F2p (eL eSpan) eDot (fun l _ => decide (l.length < 1000000)) fun l d => .bool (hasS l d), [.one (.sl true 3), .one .is]⟩
theorem ok87 (hP : ProgOK Tryz.prog X []) (hZ : ZOk Tryz.prog Z) (h143 : zOf Z 143 = some C143) (h144 : zOf Z 144 = some C144) (hz : zOf Z 87 = none) (l : List Span) (d : Dot) (hl : l.length < 1000000) : FnOk Tryz.prog 87 [eL eSpan l, eDot d] (.bool (hasS l d)) := by
  refine fn_by hP hZ i87 hz 10 1 (.one .is) rfl ?_
  by_cases c : pastCheck l = 0
  · simp [c87, go_sem, eL, eDot, h143, h144, C143, C144, hasS, c, hl]
  · simp [c87, go_sem, eL, eDot, h143, h144, C143, C144, hasS, c, hl]
/-! past.Last -/
def ePI (n : Int) : Value := fp [.int .i64 n]
theorem ePI_inj (a b : Int) (h : ePI a = ePI b) : a = b := by simp [ePI, fp] at h; exact h
@[go_sem] theorem dec_pi (n : Int) : dec ePI (fp [.int .i64 n]) = some n := dec_enc ePI_inj n
def eF199 (n : Int) : Value := .func (.func 199) ⟨[]⟩ ⟨[fp [.int .i64 n]]⟩
theorem eF199_inj (a b : Int) (h : eF199 a = eF199 b) : a = b := by simp [eF199, fp] at h; exact h
@[go_sem] theorem dec_f199 (n : Int) : dec eF199 (.func (.func 199) ⟨[]⟩ ⟨[fp [.int .i64 n]]⟩) = some n := dec_enc eF199_inj n
def mx (n : Int) (x : Span) (o : Int) : Int := if x.n = o then (if x.t ≤ n then n else x.t) else n
noncomputable def C199 : FzC := ⟨F3 eI eSpan ePI fun n x o => .int .i64 (mx n x o), [.one .is, .one .is, .one .is]⟩
theorem ok199 (hP : ProgOK Tryz.prog X []) (hZ : ZOk Tryz.prog Z) (hz : zOf Z 199 = none) (n : Int) (x : Span) (o : Int) : FnOk Tryz.prog 199 [eI n, eSpan x, ePI o] (.int .i64 (mx n x o)) := by
  refine fn_by hP hZ i199 hz 10 1 (.one .is) rfl ?_
  by_cases c1 : x.n = o
  · by_cases c2 : x.t ≤ n
    · simp [c199, go_sem, eI, eSpan, ePI, mx, c1, c2]
    · simp [c199, go_sem, eI, eSpan, ePI, mx, c1, c2]
  · simp [c199, go_sem, eI, eSpan, ePI, mx, c1]
end Go.Proofs.YtpnaenbpffhjfaaGreatDoor.Z1

namespace Go.Proofs.YtpnaenbpffhjfaaGreatDoor.Z1
open Go.Proofs.YtpnaenbpffhjfaaGreatDoor.Ev
set_option maxHeartbeats 1000000
set_option maxRecDepth 10000
variable {X : List (Nat × Ext)} {Z : List (Nat × FzC)}
def fold (o : Int) : List Span → Int → Int
  | [], n => n
  | x :: l, n => fold o l (mx n x o)
noncomputable def C198 : FzC := ⟨F2p (eL eSpan) eF199 (fun l _ => decide (l.length < 1000000)) fun l o => .int .i64 (if pastCheck l = 0 then fold o l 0 else 0), [.one (.sl true 3), .one (.fn [1])]⟩
def I198 (o : Int) (l : List Span) (m : Nat) (tm : Tr Value) (df : List DfE) (h : Hp) (nx : Nat) : Prop := ∃ k n, k ≤ l.length ∧ m = l.length - k ∧ df = [] ∧ tm.get 1 = some (eF199 o) ∧ tm.get 12 = some (fz (l.map eSpan)) ∧ tm.get 13 = some (.int .i64 l.length) ∧ tm.get 14 = some (.int .i64 k) ∧ tm.get 5 = some (.int .i64 n) ∧ fold o l 0 = fold o (l.drop k) n
theorem ok198 (hP : ProgOK Tryz.prog X []) (hZ : ZOk Tryz.prog Z) (h143 : zOf Z 143 = some C143) (h199 : zOf Z 199 = some C199) (hz : zOf Z 198 = none) (l : List Span) (o : Int) (hl : l.length < 1000000) : FnOk Tryz.prog 198 [eL eSpan l, eF199 o] (.int .i64 (if pastCheck l = 0 then fold o l 0 else 0)) := by
  refine fn_by hP hZ i198 hz (l.length + 1) 1 (.one .is) rfl ?_
  by_cases c : pastCheck l = 0
  · simp only [c198, go_sem, eL, Nat.reduceEqDiff, List.length_map, h143, C143, c, decide_true, Bool.not_true, if_true]
    refine tot_loop (I198 o l) (m := l.length) (by omega) ⟨0, 0, by omega, by omega, rfl, by simp [go_sem], by simp [go_sem], by simp [go_sem], by simp [go_sem], by simp [go_sem], rfl⟩ ?_
    rintro m tm df h nx ⟨k, n, hk, hm, rfl, h1, h12, h13, h14, h5, hc⟩
    by_cases hkl : k < l.length
    · have hx := span_at hkl
      have hd : l.drop k = l[k] :: l.drop (k + 1) := List.drop_eq_getElem_cons hkl
      have hw : IntKind.wrap .i64 ((k : Int) + 1) = ((k + 1 : Nat) : Int) := by rw [wrap64 (by omega) (by omega)]; omega
      obtain ⟨x, hxe⟩ : ∃ x, l[k] = x := ⟨_, rfl⟩
      rw [hxe] at hx hd
      rw [hd] at hc
      simp [go_sem, h1, h12, h13, h14, h5, hx, hkl, hw, h199, C199, eF199]
      exact ⟨l.length - (k + 1), by omega, k + 1, mx n x o, by omega, rfl, rfl, by simp [go_sem, h1, eF199], by simp [go_sem, h12], by simp [go_sem, h13], by simp [go_sem], by simp [go_sem], by rw [hc]; rfl⟩
    · have hkk : k = l.length := by omega
      rw [hkk, List.drop_length] at hc
      simp [go_sem, h1, h12, h13, h14, h5, hkl, hc, fold]
  · simp [c198, go_sem, eL, h143, C143, c]
def lastS (l : List Span) (o : Int) : Int := if pastCheck l = 0 then fold o l 0 else 0
noncomputable def C155 : FzC := ⟨F2p (eL eSpan) eI (fun l _ => decide (l.length < 1000000)) fun l o => .int .i64 (lastS l o), [.one (.sl true 3), .one .is]⟩
theorem ok155 (hP : ProgOK Tryz.prog X []) (hZ : ZOk Tryz.prog Z) (h198 : zOf Z 198 = some C198) (hz : zOf Z 155 = none) (l : List Span) (o : Int) (hl : l.length < 1000000) : FnOk Tryz.prog 155 [eL eSpan l, eI o] (.int .i64 (lastS l o)) := by
  refine fn_by hP hZ i155 hz 10 1 (.one .is) rfl ?_
  simp [c155, go_sem, eL, eI, h198, C198, hl, lastS]
/-! the reference's -/
def I130 (o : Int) (l : List Span) (m : Nat) (tm : Tr Value) (df : List DfE) (h : Hp) (nx : Nat) : Prop := ∃ k n, k ≤ l.length ∧ m = l.length - k ∧ df = [] ∧ tm.get 0 = some (fz (l.map eSpan)) ∧ tm.get 1 = some (.int .i64 o) ∧ tm.get 6 = some (.int .i64 k) ∧ tm.get 5 = some (.int .i64 n) ∧ fold o l 0 = fold o (l.drop k) n
theorem ok130 (hP : ProgOK Tryz.prog X []) (hZ : ZOk Tryz.prog Z) (h129 : zOf Z 129 = some C143) (hz : zOf Z 130 = none) (l : List Span) (o : Int) (hl : l.length < 1000000) : FnOk Tryz.prog 130 [eL eSpan l, eI o] (.int .i64 (lastS l o)) := by
  refine fn_by hP hZ i130 hz (l.length + 1) 1 (.one .is) rfl ?_
  by_cases c : pastCheck l = 0
  · have hls : lastS l o = fold o l 0 := by simp [lastS, c]
    simp only [c130, go_sem, eL, eI, Nat.reduceEqDiff, List.length_map, h129, C143, c, decide_true, Bool.not_true]
    refine tot_loop (I130 o l) (m := l.length) (by omega) ⟨0, 0, by omega, by omega, rfl, by simp [go_sem], by simp [go_sem], by simp [go_sem], by simp [go_sem], rfl⟩ ?_
    rintro m tm df h nx ⟨k, n, hk, hm, rfl, h0, h1, h6, h5, hc⟩
    by_cases hkl : k < l.length
    · have hx := span_at hkl
      have hd : l.drop k = l[k] :: l.drop (k + 1) := List.drop_eq_getElem_cons hkl
      have hw : IntKind.wrap .i64 ((k : Int) + 1) = ((k + 1 : Nat) : Int) := by rw [wrap64 (by omega) (by omega)]; omega
      obtain ⟨x, hxe⟩ : ∃ x, l[k] = x := ⟨_, rfl⟩
      rw [hxe] at hx hd
      rw [hd] at hc
      by_cases c1 : x.n = o
      · simp [go_sem, h0, h1, h6, h5, hx, hkl, hw, c1]
        exact ⟨l.length - (k + 1), by omega, k + 1, _, by omega, rfl, rfl, by simp [go_sem, h0], by simp [go_sem, h1], by simp [go_sem], by simp [go_sem]; rfl, by rw [hc]; simp [fold, mx, c1]⟩
      · simp [go_sem, h0, h1, h6, h5, hx, hkl, hw, c1]
        exact ⟨l.length - (k + 1), by omega, k + 1, n, by omega, rfl, rfl, by simp [go_sem, h0], by simp [go_sem, h1], by simp [go_sem], by simp [go_sem, h5], by rw [hc]; simp [fold, mx, c1]⟩
    · have hkk : k = l.length := by omega
      rw [hkk, List.drop_length] at hc
      simp [go_sem, h0, h1, h6, h5, hkl, hls, hc, fold]
  · simp [c130, go_sem, eL, eI, h129, C143, c, lastS]
def I131 (d : Dot) (p : Value) (l : List Span) (m : Nat) (tm : Tr Value) (df : List DfE) (h : Hp) (nx : Nat) : Prop := ∃ k b, k ≤ l.length ∧ m = l.length - k ∧ df = [] ∧ tm.get 0 = some (fz (l.map eSpan)) ∧ tm.get 3 = some (.pointer (some ⟨b, 0, none⟩)) ∧ h.get b = some (.cells (Tr.ofL [.int .i64 d.n, .int .i64 d.s]) 2 0) ∧ b < nx ∧ tm.get 5 = some (.int .i64 k) ∧ anyS d l = anyS d (l.drop k)
theorem ok131 (hP : ProgOK Tryz.prog X []) (hZ : ZOk Tryz.prog Z) (h129 : zOf Z 129 = some C143) (hz : zOf Z 131 = none) (l : List Span) (d : Dot) (hl : l.length < 1000000) : FnOk Tryz.prog 131 [eL eSpan l, eDot d] (.bool (hasS l d)) := by
  refine fn_by hP hZ i131 hz (l.length + 1) 1 (.one .is) rfl ?_
  by_cases c : pastCheck l = 0
  · have hls : hasS l d = anyS d l := by simp [hasS, c]
    simp only [c131, go_sem, eL, eDot, Nat.reduceEqDiff, List.length_map, h129, C143, c, decide_true, Bool.not_true]
    refine tot_loop (I131 d .nilFunc l) (m := l.length) (by omega) ⟨0, 64, by omega, by omega, rfl, by simp [go_sem], by simp [go_sem], by simp [go_sem], by omega, by simp [go_sem], rfl⟩ ?_
    rintro m tm df h nx ⟨k, b, hk, hm, rfl, h0, h3, hb, hbn, h5, hc⟩
    by_cases hkl : k < l.length
    · have hx := span_at hkl
      have hd : l.drop k = l[k] :: l.drop (k + 1) := List.drop_eq_getElem_cons hkl
      have hw : IntKind.wrap .i64 ((k : Int) + 1) = ((k + 1 : Nat) : Int) := by rw [wrap64 (by omega) (by omega)]; omega
      obtain ⟨x, hxe⟩ : ∃ x, l[k] = x := ⟨_, rfl⟩
      rw [hxe] at hx hd
      rw [hd] at hc
      by_cases c1 : x.n = d.n
      · by_cases c2 : x.f ≤ d.s
        · by_cases c3 : d.s ≤ x.t
          · have := (show anyS d l = true by rw [hc]; simp [anyS, inSp, c1, c2, c3])
            simp [go_sem, h0, h3, hb, h5, hx, hkl, hw, c1, c2, c3, hls, this]
          · simp [go_sem, h0, h3, hb, h5, hx, hkl, hw, c1, c2, c3]
            exact ⟨l.length - (k + 1), by omega, k + 1, b, by omega, rfl, rfl, by simp [go_sem, h0], by simp [go_sem, h3], by simp [go_sem, hb], by omega, by simp [go_sem], by rw [hc]; simp [anyS, inSp, c3]⟩
        · simp [go_sem, h0, h3, hb, h5, hx, hkl, hw, c1, c2]
          exact ⟨l.length - (k + 1), by omega, k + 1, b, by omega, rfl, rfl, by simp [go_sem, h0], by simp [go_sem, h3], by simp [go_sem, hb], by omega, by simp [go_sem], by rw [hc]; simp [anyS, inSp, c2]⟩
      · simp [go_sem, h0, h3, hb, h5, hx, hkl, hw, c1]
        exact ⟨l.length - (k + 1), by omega, k + 1, b, by omega, rfl, rfl, by simp [go_sem, h0], by simp [go_sem, h3], by simp [go_sem, hb], by omega, by simp [go_sem], by rw [hc]; simp [anyS, inSp, c1]⟩
    · have hkk : k = l.length := by omega
      rw [hkk, List.drop_length] at hc
      have hc' : anyS d l = false := by rw [hc]; rfl
      simp [go_sem, h0, h3, hb, h5, hkl, hls, hc']
  · simp [c131, go_sem, eL, eDot, h129, C143, c, hasS]
end Go.Proofs.YtpnaenbpffhjfaaGreatDoor.Z1

namespace Go.Proofs.YtpnaenbpffhjfaaGreatDoor.Z1
open Go.Proofs.YtpnaenbpffhjfaaGreatDoor.Ev
set_option maxHeartbeats 2000000
set_option maxRecDepth 10000
variable {X : List (Nat × Ext)} {Z : List (Nat × FzC)}
/-! event.Check -/
noncomputable def C94 : FzC := ⟨F1 eEvn fun v => .bool (decide (dotC v.d = 0)), [.one .is]⟩
theorem ok94 (hP : ProgOK Tryz.prog X []) (hZ : ZOk Tryz.prog Z) (h110 : zOf Z 110 = some C110) (hz : zOf Z 94 = none) (v : Evn) : FnOk Tryz.prog 94 [eEvn v] (.bool (decide (dotC v.d = 0))) := by
  refine fn_by hP hZ i94 hz 10 1 (.one .is) rfl ?_
  simp [c94, go_sem, eEvn, h110, C110]
noncomputable def C95 (chk : ByteArray → Bool) : FzC := ⟨F1p eEvn (fun v => pathS v.p) fun v => .bool (decide (pathI chk v.p = 0)), [.one .is]⟩
theorem ok95 (chk : ByteArray → Bool) (hP : ProgOK Tryz.prog X []) (hZ : ZOk Tryz.prog Z) (h38 : zOf Z 38 = some (C38 chk)) (hz : zOf Z 95 = none) (v : Evn) (hp : pathS v.p = true) : FnOk Tryz.prog 95 [eEvn v] (.bool (decide (pathI chk v.p = 0))) := by
  refine fn_by hP hZ i95 hz 10 1 (.one .is) rfl ?_
  simp [c95, go_sem, eEvn, h38, C38, hp]
noncomputable def C96 : FzC := ⟨F1 eEvn fun v => .bool (decide (effC v.e = 0)), [.one .is]⟩
theorem ok96 (hP : ProgOK Tryz.prog X []) (hZ : ZOk Tryz.prog Z) (h154 : zOf Z 154 = some C154) (hz : zOf Z 96 = none) (v : Evn) : FnOk Tryz.prog 96 [eEvn v] (.bool (decide (effC v.e = 0))) := by
  refine fn_by hP hZ i96 hz 10 1 (.one .is) rfl ?_
  simp [c96, go_sem, eEvn, h154, C154]
noncomputable def C97 : FzC := ⟨F1 eEvn fun v => .bool (decide (pastCheck v.l = 0)), [.one .is]⟩
theorem ok97 (hP : ProgOK Tryz.prog X []) (hZ : ZOk Tryz.prog Z) (h143 : zOf Z 143 = some C143) (hz : zOf Z 97 = none) (v : Evn) : FnOk Tryz.prog 97 [eEvn v] (.bool (decide (pastCheck v.l = 0))) := by
  refine fn_by hP hZ i97 hz 10 1 (.one .is) rfl ?_
  simp [c97, go_sem, eEvn, h143, C143, eL]
noncomputable def C98 : FzC := ⟨F1p eEvn smallE fun v => .bool (decide (lastS v.l v.d.n < v.d.s)), [.one .is]⟩
theorem ok98 (hP : ProgOK Tryz.prog X []) (hZ : ZOk Tryz.prog Z) (h155 : zOf Z 155 = some C155) (hz : zOf Z 98 = none) (v : Evn) (hv : smallE v = true) : FnOk Tryz.prog 98 [eEvn v] (.bool (decide (lastS v.l v.d.n < v.d.s))) := by
  refine fn_by hP hZ i98 hz 10 1 (.one .is) rfl ?_
  simp only [smallE, Bool.and_eq_true, decide_eq_true_eq] at hv
  simp [c98, go_sem, eEvn, h155, C155, eL, hv.2]
def evS (v : Evn) : Bool := smallE v && pathS v.p
def evOK (chk : ByteArray → Bool) (v : Evn) : Bool := decide (dotC v.d = 0) && (decide (pathI chk v.p = 0) && (decide (effC v.e = 0) && (decide (pastCheck v.l = 0) && decide (lastS v.l v.d.n < v.d.s))))
def evC (chk : ByteArray → Bool) (v : Evn) : Int := if evOK chk v then 0 else 2
noncomputable def C42 (chk : ByteArray → Bool) : FzC := ⟨F1p eEvn evS fun v => .int .i64 (evC chk v), [.one .is]⟩
theorem loopI_s (k : Tr Value → List DfE → Hp → Nat → C) (n : Nat) (tm : Tr Value) (df : List DfE) (h : Hp) (nx : Nat) : loopI k (n + 1) tm df h nx = thenK (loopI k n) (k tm df h nx) := rfl
theorem ok73 (chk : ByteArray → Bool) (hP : ProgOK Tryz.prog X []) (hZ : ZOk Tryz.prog Z) (h111 : zOf Z 111 = some C110) (h127 : zOf Z 127 = some (C38 chk)) (h128 : zOf Z 128 = some C154) (h129 : zOf Z 129 = some C143) (h130 : zOf Z 130 = some C155) (hz : zOf Z 73 = none) (v : Evn) (hv : evS v = true) : FnOk Tryz.prog 73 [eEvn v] (.int .i64 (evC chk v)) := by
  refine fn_by hP hZ i73 hz 10 1 (.one .is) rfl ?_
  simp only [evS, smallE, Bool.and_eq_true, decide_eq_true_eq] at hv
  by_cases a1 : dotC v.d = 0
  · by_cases a2 : pathI chk v.p = 0
    · by_cases a3 : effC v.e = 0
      · by_cases a4 : pastCheck v.l = 0
        · by_cases a5 : lastS v.l v.d.n < v.d.s
          · have a6 : ¬ v.d.s ≤ lastS v.l v.d.n := by omega
            simp [c73, go_sem, eEvn, eL, h111, h127, h128, h129, h130, C110, C38, C154, C143, C155, hv.2, hv.1.1, hv.1.2, a1, a2, a3, a4, a5, a6, evC, evOK]
          · have a6 : v.d.s ≤ lastS v.l v.d.n := by omega
            simp [c73, go_sem, eEvn, eL, h111, h127, h128, h129, h130, C110, C38, C154, C143, C155, hv.2, hv.1.1, hv.1.2, a1, a2, a3, a4, a5, a6, evC, evOK]
        · simp [c73, go_sem, eEvn, eL, h111, h127, h128, h129, h130, C110, C38, C154, C143, C155, hv.2, hv.1.1, hv.1.2, a1, a2, a3, a4, evC, evOK]
      · simp [c73, go_sem, eEvn, eL, h111, h127, h128, h129, h130, C110, C38, C154, C143, C155, hv.2, hv.1.1, hv.1.2, a1, a2, a3, evC, evOK]
    · simp [c73, go_sem, eEvn, eL, h111, h127, h128, h129, h130, C110, C38, C154, C143, C155, hv.2, hv.1.1, hv.1.2, a1, a2, evC, evOK]
  · simp [c73, go_sem, eEvn, eL, h111, h127, h128, h129, h130, C110, C38, C154, C143, C155, hv.2, hv.1.1, hv.1.2, a1, evC, evOK]
end Go.Proofs.YtpnaenbpffhjfaaGreatDoor.Z1

namespace Go.Proofs.YtpnaenbpffhjfaaGreatDoor.Z1
open Go.Proofs.YtpnaenbpffhjfaaGreatDoor.Ev
set_option maxHeartbeats 2000000
set_option maxRecDepth 10000
variable {X : List (Nat × Ext)} {Z : List (Nat × FzC)}
def cE (v : Evn) : List Value := [.int .i64 v.d.n, .int .i64 v.d.s, .string v.p, .int .i64 v.e.k, .int .i64 v.e.m, fz (v.e.b.map eU8), fz (v.l.map eSpan)]
theorem eEvn_cE (v : Evn) : eEvn v = .agg ⟨cE v⟩ := rfl
theorem cE_len (v : Evn) : (cE v).length = 7 := rfl
theorem cE_dec (v : Evn) : dec eEvn (.agg ⟨cE v⟩) = some v := by rw [← eEvn_cE]; exact dec_enc eEvn_inj v
theorem cE_noId (v : Evn) : noIdL (cE v) = true := by simp [cE, go_sem]
theorem cE_cells (v : Evn) : cellsV (cE v) = true := by simp [cE, cellsV, go_sem]
theorem w1 : IntKind.wrap .i64 1 = 1 := wrap64 (by omega) (by omega)
theorem w2 : IntKind.wrap .i64 2 = 2 := wrap64 (by omega) (by omega)
theorem w3 : IntKind.wrap .i64 3 = 3 := wrap64 (by omega) (by omega)
theorem w4 : IntKind.wrap .i64 4 = 4 := wrap64 (by omega) (by omega)
theorem w5 : IntKind.wrap .i64 5 = 5 := wrap64 (by omega) (by omega)
attribute [local simp] getMany_s in
theorem ok42 (chk : ByteArray → Bool) (hP : ProgOK Tryz.prog X []) (hZ : ZOk Tryz.prog Z) (h94 : zOf Z 94 = some C94) (h95 : zOf Z 95 = some (C95 chk)) (h96 : zOf Z 96 = some C96) (h97 : zOf Z 97 = some C97) (h98 : zOf Z 98 = some C98) (hz : zOf Z 42 = none) (v : Evn) (hv : evS v = true) : FnOk Tryz.prog 42 [eEvn v] (.int .i64 (evC chk v)) := by
  refine fn_by hP hZ i42 hz 10 1 (.one .is) rfl ?_
  simp only [evS, Bool.and_eq_true, decide_eq_true_eq] at hv
  have hl := cE_len v
  have hd := cE_dec v
  have hn := cE_noId v
  have hcv := cE_cells v
  rw [eEvn_cE]
  generalize cE v = cs at *
  have g1 := getMany_ofL hl
  have g2 := getMany_setMany hl
  by_cases a1 : dotC v.d = 0
  · by_cases a2 : pathI chk v.p = 0
    · by_cases a3 : effC v.e = 0
      · by_cases a4 : pastCheck v.l = 0
        · by_cases a5 : lastS v.l v.d.n < v.d.s
          · simp [c42, go_sem, -getMany_s, g1, g2, hl, hd, hn, hcv, h94, h95, h96, h97, h98, C94, C95, C96, C97, C98, hv.1, hv.2, a1, a2, a3, a4, a5, evC, evOK, loopI_s, w1, w2, w3, w4, w5]
          · simp [c42, go_sem, -getMany_s, g1, g2, hl, hd, hn, hcv, h94, h95, h96, h97, h98, C94, C95, C96, C97, C98, hv.1, hv.2, a1, a2, a3, a4, a5, evC, evOK, loopI_s, w1, w2, w3, w4, w5]
        · simp [c42, go_sem, -getMany_s, g1, g2, hl, hd, hn, hcv, h94, h95, h96, h97, h98, C94, C95, C96, C97, C98, hv.1, hv.2, a1, a2, a3, a4, evC, evOK, loopI_s, w1, w2, w3, w4, w5]
      · simp [c42, go_sem, -getMany_s, g1, g2, hl, hd, hn, hcv, h94, h95, h96, h97, h98, C94, C95, C96, C97, C98, hv.1, hv.2, a1, a2, a3, evC, evOK, loopI_s, w1, w2, w3, w4, w5]
    · simp [c42, go_sem, -getMany_s, g1, g2, hl, hd, hn, hcv, h94, h95, h96, h97, h98, C94, C95, C96, C97, C98, hv.1, hv.2, a1, a2, evC, evOK, loopI_s, w1, w2, w3, w4, w5]
  · simp [c42, go_sem, -getMany_s, g1, g2, hl, hd, hn, hcv, h94, h95, h96, h97, h98, C94, C95, C96, C97, C98, hv.1, hv.2, a1, evC, evOK, loopI_s, w1, w2, w3, w4, w5]
end Go.Proofs.YtpnaenbpffhjfaaGreatDoor.Z1

