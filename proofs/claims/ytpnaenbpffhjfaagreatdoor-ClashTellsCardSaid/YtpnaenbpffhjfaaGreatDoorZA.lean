/- Comparing, dots, effects, the kit's copies at all inputs. No conditions. -/
import Derived.Test.YtpnaenbpffhjfaaGreatDoorZI
set_option linter.unusedVariables false
set_option linter.unusedSimpArgs false
set_option linter.all false
namespace Go.Proofs.YtpnaenbpffhjfaaGreatDoor.Z1
open Go.Proofs.YtpnaenbpffhjfaaGreatDoor.Ev
set_option maxHeartbeats 1000000
set_option maxRecDepth 10000

variable {X : List (Nat × Ext)} {Z : List (Nat × FzC)}
/-! Data of the program -/
structure Dot where
  n : Int
  s : Int
deriving DecidableEq
def eDot (d : Dot) : Value := .agg ⟨[.int .i64 d.n, .int .i64 d.s]⟩
theorem eDot_inj (a b : Dot) (h : eDot a = eDot b) : a = b := by
  cases a; cases b; simp [eDot] at h; simp [h]
@[go_sem] theorem dec_dot (n s : Int) : dec eDot (.agg ⟨[.int .i64 n, .int .i64 s]⟩) = some ⟨n, s⟩ := dec_enc eDot_inj ⟨n, s⟩
/-! cmp -/
def cmpI (a b : Int) : Int := if a < b then -1 else if b < a then 1 else 0
def orI : List Int → Int
  | [] => 0
  | x :: l => if x = 0 then orI l else x
@[go_sem] theorem dec_ints (l : List Int) : dec (eL eI) (fz (l.map eI)) = some l := dec_enc (eL_inj eI_inj) l
@[go_sem] theorem dec_ints2 (a b : Int) : dec (eL eI) (fz [.int .i64 a, .int .i64 b]) = some [a, b] := dec_ints [a, b]
@[go_sem] theorem dec_ints4 (a b c d : Int) : dec (eL eI) (fz [.int .i64 a, .int .i64 b, .int .i64 c, .int .i64 d]) = some [a, b, c, d] := dec_ints [a, b, c, d]
noncomputable def C177 : FzC := ⟨F1 eI fun _ => .bool false, [.one .is]⟩
theorem ok177 (hP : ProgOK Tryz.prog X []) (hZ : ZOk Tryz.prog Z) (hz : zOf Z 177 = none) (n : Int) : FnOk Tryz.prog 177 [eI n] (.bool false) := by
  refine fn_by hP hZ i177 hz 10 1 (.one .is) rfl ?_
  simp [c177, go_sem, eI]
noncomputable def C137 : FzC := ⟨F2 eI eI fun a b => .int .i64 (cmpI a b), [.one .is, .one .is]⟩
theorem ok137 (hP : ProgOK Tryz.prog X []) (hZ : ZOk Tryz.prog Z) (h177 : zOf Z 177 = some C177) (hz : zOf Z 137 = none) (a b : Int) : FnOk Tryz.prog 137 [eI a, eI b] (.int .i64 (cmpI a b)) := by
  refine fn_by hP hZ i137 hz 10 1 (.one .is) rfl ?_
  by_cases h : a < b
  · simp [c137, go_sem, eI, h177, C177, h, cmpI]
  · by_cases h' : b < a
    · simp [c137, go_sem, eI, h177, C177, h, h', cmpI]
    · simp [c137, go_sem, eI, h177, C177, h, h', cmpI]
theorem int_at {l : List Int} {k : Nat} (h : k < l.length) : idxSl (fz (l.map eI)) 1 (k : Int) = .val (fp [.int .i64 l[k]]) := idx_map h fun _ => rfl
noncomputable def C136 : FzC := ⟨F1p (eL eI) (fun l => decide (l.length < 1000000)) fun l => .int .i64 (orI l), [.one (.sl false 1)]⟩
def I136 (l : List Int) (m : Nat) (tm : Tr Value) (df : List DfE) (h : Hp) (nx : Nat) : Prop := ∃ k, k ≤ l.length ∧ m = l.length - k ∧ df = [] ∧ tm.get 3 = some (.int .i64 0) ∧ tm.get 6 = some (fz (l.map eI)) ∧ tm.get 7 = some (.int .i64 l.length) ∧ tm.get 8 = some (.int .i64 k) ∧ orI l = orI (l.drop k)
theorem ok136 (hP : ProgOK Tryz.prog X []) (hZ : ZOk Tryz.prog Z) (hz : zOf Z 136 = none) (l : List Int) (hl : l.length < 1000000) : FnOk Tryz.prog 136 [eL eI l] (.int .i64 (orI l)) := by
  refine fn_by hP hZ i136 hz (l.length + 1) 1 (.one .is) rfl ?_
  simp only [c136, go_sem, eL, Nat.reduceEqDiff, List.length_map]
  refine tot_loop (I136 l) (m := l.length) (by omega) ⟨0, by omega, by omega, rfl, by simp [go_sem], by simp [go_sem], by simp [go_sem], by simp [go_sem], rfl⟩ ?_
  rintro m tm df h nx ⟨k, hk, hm, rfl, h3, h6, h7, h8, hc⟩
  by_cases hkl : k < l.length
  · have hx := int_at hkl
    have hd : l.drop k = l[k] :: l.drop (k + 1) := List.drop_eq_getElem_cons hkl
    have hw : IntKind.wrap .i64 ((k : Int) + 1) = ((k + 1 : Nat) : Int) := by rw [wrap64 (by omega) (by omega)]; omega
    rw [hd] at hc
    by_cases c : l[k] = 0
    · simp [go_sem, h3, h6, h7, h8, hx, hkl, c, hw]
      exact ⟨l.length - (k + 1), by omega, k + 1, by omega, rfl, rfl, by simp [go_sem, h3], by simp [go_sem, h6], by simp [go_sem, h7], by simp [go_sem], by rw [hc]; simp [orI, c]⟩
    · simp [go_sem, h3, h6, h7, h8, hx, hkl, c, hc, orI]
  · simp [go_sem, h3, h6, h7, h8, hkl]
    have hkk : k = l.length := by omega
    subst hkk
    rw [hc]; simp [orI]
/-! dot -/
def dotO (a b : Dot) : Int := orI [cmpI a.n b.n, cmpI a.s b.s]
noncomputable def C88 : FzC := ⟨F2 eDot eDot fun a b => .int .i64 (dotO a b), [.one .is, .one .is]⟩
theorem ok88 (hP : ProgOK Tryz.prog X []) (hZ : ZOk Tryz.prog Z) (h136 : zOf Z 136 = some C136) (h137 : zOf Z 137 = some C137) (hz : zOf Z 88 = none) (a b : Dot) : FnOk Tryz.prog 88 [eDot a, eDot b] (.int .i64 (dotO a b)) := by
  refine fn_by hP hZ i88 hz 10 1 (.one .is) rfl ?_
  simp [c88, go_sem, eDot, h136, h137, C136, C137, dotO]
noncomputable def C35 : FzC := ⟨F2 eDot eDot fun a b => .bool (decide (dotO a b < 0)), [.one .is, .one .is]⟩
theorem ok35 (hP : ProgOK Tryz.prog X []) (hZ : ZOk Tryz.prog Z) (h88 : zOf Z 88 = some C88) (hz : zOf Z 35 = none) (a b : Dot) : FnOk Tryz.prog 35 [eDot a, eDot b] (.bool (decide (dotO a b < 0))) := by
  refine fn_by hP hZ i35 hz 10 1 (.one .is) rfl ?_
  simp [c35, go_sem, eDot, h88, C88]

def badDot (d : Dot) : Bool := decide (d.n < 1) || decide (200 < d.n) || decide (d.s < 1) || decide (2147483647 < d.s)
def dotC (d : Dot) : Int := if badDot d then 2 else 0
noncomputable def C110 : FzC := ⟨F1 eDot fun d => .int .i64 (dotC d), [.one .is]⟩
theorem ok110 (hP : ProgOK Tryz.prog X []) (hZ : ZOk Tryz.prog Z) (hz : zOf Z 110 = none) (d : Dot) : FnOk Tryz.prog 110 [eDot d] (.int .i64 (dotC d)) := by
  refine fn_by hP hZ i110 hz 10 1 (.one .is) rfl ?_
  by_cases h1 : d.n < 1
  · simp [c110, go_sem, eDot, h1, dotC, badDot]
  by_cases h2 : 200 < d.n
  · simp [c110, go_sem, eDot, h1, h2, dotC, badDot]
  by_cases h3 : d.s < 1
  · simp [c110, go_sem, eDot, h1, h2, h3, dotC, badDot]
  by_cases h4 : 2147483647 < d.s
  · simp [c110, go_sem, eDot, h1, h2, h3, h4, dotC, badDot]
  simp [c110, go_sem, eDot, h1, h2, h3, h4, dotC, badDot]
noncomputable def C111 : FzC := C110
theorem ok111 (hP : ProgOK Tryz.prog X []) (hZ : ZOk Tryz.prog Z) (hz : zOf Z 111 = none) (d : Dot) : FnOk Tryz.prog 111 [eDot d] (.int .i64 (dotC d)) := by
  refine fn_by hP hZ i111 hz 10 1 (.one .is) rfl ?_
  by_cases h1 : d.n < 1
  · simp [c111, go_sem, eDot, h1, dotC, badDot]
  by_cases h2 : 200 < d.n
  · simp [c111, go_sem, eDot, h1, h2, dotC, badDot]
  by_cases h3 : d.s < 1
  · simp [c111, go_sem, eDot, h1, h2, h3, dotC, badDot]
  by_cases h4 : 2147483647 < d.s
  · simp [c111, go_sem, eDot, h1, h2, h3, h4, dotC, badDot]
  simp [c111, go_sem, eDot, h1, h2, h3, h4, dotC, badDot]
def dotL (a b : Dot) : Bool := decide (a.n < b.n) || decide (a.n = b.n) && decide (a.s < b.s)
theorem dotL_eq (a b : Dot) : decide (dotO a b < 0) = dotL a b := by
  unfold dotO dotL cmpI
  by_cases h1 : a.n < b.n
  · simp [orI, h1]
  by_cases h2 : b.n < a.n
  · simp [orI, h1, h2]; omega
  have : a.n = b.n := by omega
  by_cases h3 : a.s < b.s
  · simp [orI, this, h3]
  by_cases h4 : b.s < a.s
  · simp [orI, this, h3, h4]
  simp [orI, this, h3, h4]
noncomputable def C70 : FzC := ⟨F2 eDot eDot fun a b => .bool (dotL a b), [.one .is, .one .is]⟩
theorem ok70 (hP : ProgOK Tryz.prog X []) (hZ : ZOk Tryz.prog Z) (hz : zOf Z 70 = none) (a b : Dot) : FnOk Tryz.prog 70 [eDot a, eDot b] (.bool (dotL a b)) := by
  refine fn_by hP hZ i70 hz 10 1 (.one .is) rfl ?_
  by_cases h1 : a.n < b.n
  · simp [c70, go_sem, eDot, h1, dotL]
  by_cases h2 : a.n = b.n
  · simp [c70, go_sem, eDot, h2.symm, dotL]
  simp [c70, go_sem, eDot, h1, h2, dotL]
end Go.Proofs.YtpnaenbpffhjfaaGreatDoor.Z1

namespace Go.Proofs.YtpnaenbpffhjfaaGreatDoor.Z1
open Go.Proofs.YtpnaenbpffhjfaaGreatDoor.Ev
set_option maxHeartbeats 1000000
set_option maxRecDepth 10000
variable {X : List (Nat × Ext)} {Z : List (Nat × FzC)}
structure Eff where
  k : Int
  m : Int
  b : List UInt8
def eEff (e : Eff) : Value := .agg ⟨[.int .i64 e.k, .int .i64 e.m, fz (e.b.map eU8)]⟩
theorem eEff_inj (a b : Eff) (h : eEff a = eEff b) : a = b := by
  obtain ⟨k, m, x⟩ := a
  obtain ⟨k', m', y⟩ := b
  simp only [eEff, Value.agg.injEq, Array.mk.injEq, List.cons.injEq, Value.int.injEq, and_true, true_and] at h
  obtain ⟨rfl, rfl, h3⟩ := h
  rw [eY_inj x y h3]
@[go_sem] theorem dec_eff (k m : Int) (b : List UInt8) : dec eEff (.agg ⟨[.int .i64 k, .int .i64 m, fz (b.map eU8)]⟩) = some ⟨k, m, b⟩ := dec_enc eEff_inj ⟨k, m, b⟩
noncomputable def C64 : FzC := ⟨F1 eEff fun e => .bool (decide (1200 < e.b.length)), [.one .is]⟩
theorem ok64 (hP : ProgOK Tryz.prog X []) (hZ : ZOk Tryz.prog Z) (hz : zOf Z 64 = none) (e : Eff) : FnOk Tryz.prog 64 [eEff e] (.bool (decide (1200 < e.b.length))) := by
  refine fn_by hP hZ i64 hz 10 1 (.one .is) rfl ?_
  by_cases h : 1200 < e.b.length
  · have : (1200 : Int) < e.b.length := by omega
    simp [c64, go_sem, eEff, h, this]
  · have : ¬ (1200 : Int) < e.b.length := by omega
    simp [c64, go_sem, eEff, h, this]
def effOK (e : Eff) : Bool := decide (e.k = 1) && (decide (0 ≤ e.m) && decide (e.m ≤ 511)) && decide ((e.b.length : Int) ≤ 1000) || decide (e.k = 2) && (decide (0 ≤ e.m) && decide (e.m ≤ 511)) && decide ((e.b.length : Int) = 0) || decide (e.k = 3) && decide (e.m = 0) && decide ((e.b.length : Int) = 0)
def effC (e : Eff) : Int := if effOK e then 0 else 2
noncomputable def C154 : FzC := ⟨F1 eEff fun e => .int .i64 (effC e), [.one .is]⟩
theorem ok128 (hP : ProgOK Tryz.prog X []) (hZ : ZOk Tryz.prog Z) (hz : zOf Z 128 = none) (e : Eff) : FnOk Tryz.prog 128 [eEff e] (.int .i64 (effC e)) := by
  refine fn_by hP hZ i128 hz 10 1 (.one .is) rfl ?_
  by_cases k1 : e.k = 1
  · by_cases h1 : 0 ≤ e.m
    · by_cases h2 : e.m ≤ 511
      · by_cases h3 : (e.b.length : Int) ≤ 1000
        · simp [c128, go_sem, eEff, k1, h1, h2, h3, effC, effOK]
        · simp [c128, go_sem, eEff, k1, h1, h2, h3, effC, effOK]
      · simp [c128, go_sem, eEff, k1, h1, h2, effC, effOK]
    · simp [c128, go_sem, eEff, k1, h1, effC, effOK]
  by_cases k2 : e.k = 2
  · by_cases h1 : 0 ≤ e.m
    · by_cases h2 : e.m ≤ 511
      · by_cases h3 : e.b = []
        · simp [c128, go_sem, eEff, k2, h1, h2, h3, effC, effOK]
        · simp [c128, go_sem, eEff, k2, h1, h2, h3, effC, effOK]
      · simp [c128, go_sem, eEff, k2, h1, h2, effC, effOK]
    · simp [c128, go_sem, eEff, k2, h1, effC, effOK]
  by_cases k3 : e.k = 3
  · by_cases h1 : e.m = 0
    · by_cases h3 : e.b = []
      · simp [c128, go_sem, eEff, k3, h1, h3, effC, effOK]
      · simp [c128, go_sem, eEff, k3, h1, h3, effC, effOK]
    · simp [c128, go_sem, eEff, k3, h1, effC, effOK]
  simp [c128, go_sem, eEff, k1, k2, k3, effC, effOK]
theorem ok154 (hP : ProgOK Tryz.prog X []) (hZ : ZOk Tryz.prog Z) (h197 : zOf Z 197 = none) (hz : zOf Z 154 = none) (e : Eff) : FnOk Tryz.prog 154 [eEff e] (.int .i64 (effC e)) := by
  refine fn_by hP hZ i154 hz 10 2 (.one .is) rfl ?_
  by_cases k1 : e.k = 1
  · by_cases h1 : 0 ≤ e.m
    · have h1' : ¬ e.m < 0 := by omega
      by_cases h2 : e.m ≤ 511
      · have h2' : ¬ 511 < e.m := by omega
        by_cases h3 : (e.b.length : Int) ≤ 1000
        · have h3' : ¬ 1000 < (e.b.length : Int) := by omega
          simp [c154, c197, i197, h197, go_sem, eEff, k1, h1, h2, h3, h1', h2', h3', effC, effOK]
        · have h3' : 1000 < (e.b.length : Int) := by omega
          simp [c154, c197, i197, h197, go_sem, eEff, k1, h1, h2, h3, h1', h2', h3', effC, effOK]
      · have h2' : 511 < e.m := by omega
        simp [c154, c197, i197, h197, go_sem, eEff, k1, h1, h2, h1', h2', effC, effOK]
    · have h1' : e.m < 0 := by omega
      simp [c154, c197, i197, h197, go_sem, eEff, k1, h1, h1', effC, effOK]
  by_cases k2 : e.k = 2
  · by_cases h1 : 0 ≤ e.m
    · have h1' : ¬ e.m < 0 := by omega
      by_cases h2 : e.m ≤ 511
      · have h2' : ¬ 511 < e.m := by omega
        by_cases h3 : e.b = []
        · simp [c154, c197, i197, h197, go_sem, eEff, k2, h1, h2, h3, h1', h2', effC, effOK]
        · have h3' : 0 < e.b.length := List.length_pos_iff.2 h3
          simp [c154, c197, i197, h197, go_sem, eEff, k2, h1, h2, h3, h1', h2', h3', effC, effOK]
      · have h2' : 511 < e.m := by omega
        simp [c154, c197, i197, h197, go_sem, eEff, k2, h1, h2, h1', h2', effC, effOK]
    · have h1' : e.m < 0 := by omega
      simp [c154, c197, i197, h197, go_sem, eEff, k2, h1, h1', effC, effOK]
  by_cases k3 : e.k = 3
  · by_cases h1 : e.m = 0
    · by_cases h3 : e.b = []
      · simp [c154, c197, i197, h197, go_sem, eEff, k3, h1, h3, effC, effOK]
      · have h3' : 0 < e.b.length := List.length_pos_iff.2 h3
        simp [c154, c197, i197, h197, go_sem, eEff, k3, h1, h3, h3', effC, effOK]
    · by_cases h2 : e.m < 0
      · simp [c154, c197, i197, h197, go_sem, eEff, k3, h1, h2, effC, effOK]
      · have h2' : 0 < e.m := by omega
        simp [c154, c197, i197, h197, go_sem, eEff, k3, h1, h2, h2', effC, effOK]
  by_cases h1 : e.k < 1
  · simp [c154, c197, i197, h197, go_sem, eEff, k1, k2, k3, h1, effC, effOK]
  · have h2 : 3 < e.k := by omega
    simp [c154, c197, i197, h197, go_sem, eEff, k1, k2, k3, h1, h2, effC, effOK]
end Go.Proofs.YtpnaenbpffhjfaaGreatDoor.Z1

namespace Go.Proofs.YtpnaenbpffhjfaaGreatDoor.Z1
open Go.Proofs.YtpnaenbpffhjfaaGreatDoor.Ev
set_option maxHeartbeats 1000000
set_option maxRecDepth 10000
variable {X : List (Nat × Ext)} {Z : List (Nat × FzC)}
noncomputable def C164 : FzC := ⟨F2 eY eY fun a b => .int .i64 (cmpB a b), [.one .is, .one .is]⟩
theorem ok164 (hP : ProgOK Tryz.prog X []) (hZ : ZOk Tryz.prog Z) (hx : extT X 200 = some .compare) (h200 : zOf Z 200 = none) (hz : zOf Z 164 = none) (a b : List UInt8) : FnOk Tryz.prog 164 [eY a, eY b] (.int .i64 (cmpB a b)) := by
  refine fn_by hP hZ i164 hz 10 2 (.one .is) rfl ?_
  simp [c164, go_sem, eY, callN_ext nb200, hx, h200]
def effO (a b : Eff) : Int := orI [cmpI a.k b.k, cmpI a.m b.m, cmpB a.b b.b]
@[go_sem] theorem dec_ints3 (a b c : Int) : dec (eL eI) (fz [.int .i64 a, .int .i64 b, .int .i64 c]) = some [a, b, c] := dec_ints [a, b, c]
noncomputable def C126 : FzC := ⟨F2 eEff eEff fun a b => .int .i64 (effO a b), [.one .is, .one .is]⟩
theorem ok126 (hP : ProgOK Tryz.prog X []) (hZ : ZOk Tryz.prog Z) (h136 : zOf Z 136 = some C136) (h137 : zOf Z 137 = some C137) (h164 : zOf Z 164 = some C164) (hz : zOf Z 126 = none) (a b : Eff) : FnOk Tryz.prog 126 [eEff a, eEff b] (.int .i64 (effO a b)) := by
  refine fn_by hP hZ i126 hz 10 1 (.one .is) rfl ?_
  simp [c126, go_sem, eEff, h136, h137, h164, C136, C137, C164, effO]
noncomputable def C71 : FzC := ⟨F2 eEff eEff fun a b => .bool (decide (effO a b = 0)), [.one .is, .one .is]⟩
theorem ok71 (hP : ProgOK Tryz.prog X []) (hZ : ZOk Tryz.prog Z) (h126 : zOf Z 126 = some C126) (hz : zOf Z 71 = none) (a b : Eff) : FnOk Tryz.prog 71 [eEff a, eEff b] (.bool (decide (effO a b = 0))) := by
  refine fn_by hP hZ i71 hz 10 1 (.one .is) rfl ?_
  simp [c71, go_sem, eEff, h126, C126]

theorem ltB_irr : ∀ a : List UInt8, ltB a a = false
  | [] => rfl
  | x :: l => by
    have h := ltB_irr l
    unfold ltB
    have e1 : Nat.blt x.toNat x.toNat = false := by cases hb : Nat.blt x.toNat x.toNat with | false => rfl | true => exact absurd (blt_true.1 hb) (Nat.lt_irrefl _)
    simp [e1, h]
theorem ltB_eq2 : ∀ a b : List UInt8, ltB a b = false → ltB b a = false → a = b
  | [], [], _, _ => rfl
  | [], _ :: _, h, _ => by simp [ltB] at h
  | _ :: _, [], _, h => by simp [ltB] at h
  | x :: l, y :: m, h1, h2 => by
    unfold ltB at h1 h2
    by_cases c1 : x.toNat < y.toNat
    · have e1 : Nat.blt x.toNat y.toNat = true := blt_true.2 c1
      simp [e1] at h1
    by_cases c2 : y.toNat < x.toNat
    · have e1 : Nat.blt y.toNat x.toNat = true := blt_true.2 c2
      simp [e1] at h2
    have hxy : x.toNat = y.toNat := by omega
    have e1 : Nat.blt x.toNat y.toNat = false := by cases hb : Nat.blt x.toNat y.toNat with | false => rfl | true => exact absurd (blt_true.1 hb) c1
    have e2 : Nat.blt y.toNat x.toNat = false := by cases hb : Nat.blt y.toNat x.toNat with | false => rfl | true => exact absurd (blt_true.1 hb) c2
    have : x = y := UInt8.toNat_inj.1 hxy
    subst this
    simp [e1] at h1 h2
    rw [ltB_eq2 l m h1 h2]
theorem cmpB_0 (a b : List UInt8) : cmpB a b = 0 ↔ a = b := by
  constructor
  · intro h
    unfold cmpB at h
    cases h1 : ltB a b with
    | true => rw [h1] at h; cases h
    | false =>
      cases h2 : ltB b a with
      | true => rw [h1, h2] at h; cases h
      | false => exact ltB_eq2 a b h1 h2
  · rintro rfl; simp [cmpB, ltB_irr]
theorem cmpI_0 (a b : Int) : cmpI a b = 0 ↔ a = b := by
  unfold cmpI
  by_cases h1 : a < b
  · simp [h1]; omega
  · by_cases h2 : b < a
    · simp [h1, h2]; omega
    · simp [h1, h2]; omega
theorem orI_0 (x : Int) (l : List Int) : orI (x :: l) = 0 ↔ x = 0 ∧ orI l = 0 := by
  by_cases h : x = 0 <;> simp [orI, h]
def effS (a b : Eff) : Bool := decide (a.k = b.k) && decide (a.m = b.m) && decide (a.b = b.b)
theorem effO_i (a b : Eff) : effO a b = 0 ↔ a.k = b.k ∧ a.m = b.m ∧ a.b = b.b := by
  unfold effO
  rw [orI_0, orI_0, orI_0, cmpI_0, cmpI_0, cmpB_0]
  simp [orI]
theorem effO_0 (a b : Eff) : decide (effO a b = 0) = effS a b := by
  unfold effS
  have h := effO_i a b
  by_cases h0 : effO a b = 0
  · obtain ⟨h1, h2, h3⟩ := h.1 h0
    simp [h0, h1, h2, h3]
  · simp only [h0, decide_false]
    by_cases h1 : a.k = b.k
    · by_cases h2 : a.m = b.m
      · by_cases h3 : a.b = b.b
        · exact absurd (h.2 ⟨h1, h2, h3⟩) h0
        · simp [h3]
      · simp [h2]
    · simp [h1]
noncomputable def C75 : FzC := ⟨F2 eEff eEff fun a b => .bool (effS a b), [.one .is, .one .is]⟩
theorem ok75 (hP : ProgOK Tryz.prog X []) (hZ : ZOk Tryz.prog Z) (hz : zOf Z 75 = none) (a b : Eff) : FnOk Tryz.prog 75 [eEff a, eEff b] (.bool (effS a b)) := by
  refine fn_by hP hZ i75 hz 10 1 (.one .is) rfl ?_
  by_cases h1 : a.k = b.k
  · by_cases h2 : a.m = b.m
    · simp [c75, go_sem, eEff, h1.symm, h2.symm, effS]
    · simp [c75, go_sem, eEff, h1.symm, h2, effS]
  · simp [c75, go_sem, eEff, h1, effS]
end Go.Proofs.YtpnaenbpffhjfaaGreatDoor.Z1

namespace Go.Proofs.YtpnaenbpffhjfaaGreatDoor.Z1
open Go.Proofs.YtpnaenbpffhjfaaGreatDoor.Ev
set_option maxHeartbeats 1000000
set_option maxRecDepth 10000
variable {X : List (Nat × Ext)} {Z : List (Nat × FzC)}
theorem zc24 : zcT Tryz.prog 5 1 = some [.int .u8 0] := by simp [go_sem]
theorem zc27 : zcT Tryz.prog 112 3 = some [.int .i64 0, .int .i64 0, .int .i64 0] := by simp [go_sem]
noncomputable def C112 : FzC := ⟨F1p eY (fun l => decide (l.length < 1000000)) fun l => eY l, [.one (.sl false 1)]⟩
theorem ok112 (hP : ProgOK Tryz.prog X []) (hZ : ZOk Tryz.prog Z) (hz : zOf Z 112 = none) (a : List UInt8) (ha : a.length < 1000000) : FnOk Tryz.prog 112 [eY a] (eY a) := by
  refine fn_by hP hZ i112 hz 10 1 (.one (.sl false 1)) rfl ?_
  by_cases h0 : a = []
  · subst h0
    simp [c112, go_sem, eY, app_0 sl24 in24 by5 zc24]
  · have hr : ∀ r ∈ a.map eU8, (cellsL r).length = 1 := by simp [eU8, cellsL]
    have hc := chop_one (rows := a.map eU8) (by simp [eU8, cellsL])
    simp [c112, go_sem, eY, app_1 (rows := a.map eU8) sl24 in24 by5 zc24 hr (by simpa using h0) (by simp; omega) (by simp; omega) (by omega), hc.1, h0]
    have h2 := hc.2
    rw [List.length_map] at h2
    rw [h2]
/-! Spans -/
structure Span where
  n : Int
  f : Int
  t : Int
def eSpan (s : Span) : Value := .agg ⟨[.int .i64 s.n, .int .i64 s.f, .int .i64 s.t]⟩
theorem eSpan_inj (a b : Span) (h : eSpan a = eSpan b) : a = b := by
  cases a; cases b; simp [eSpan] at h; simp [h]
@[go_sem] theorem dec_spans (l : List Span) : dec (eL eSpan) (fz (l.map eSpan)) = some l := dec_list eSpan_inj l
@[go_sem] theorem dec_spans0 : dec (eL eSpan) (fz []) = some [] := dec_list eSpan_inj []
noncomputable def C69 : FzC := ⟨F1p (eL eSpan) (fun l => decide (l.length < 1000000)) fun l => eL eSpan l, [.one (.sl true 3)]⟩
theorem ok69 (hP : ProgOK Tryz.prog X []) (hZ : ZOk Tryz.prog Z) (hz : zOf Z 69 = none) (a : List Span) (ha : a.length < 1000000) : FnOk Tryz.prog 69 [eL eSpan a] (eL eSpan a) := by
  refine fn_by hP hZ i69 hz 10 1 (.one (.sl true 3)) rfl ?_
  by_cases h0 : a = []
  · subst h0
    simp [c69, go_sem, eL, app_0 sl27 in27 by112 zc27]
  · have hr : ∀ r ∈ a.map eSpan, (cellsL r).length = 3 := by simp [eSpan, cellsL]
    have hc := chop_agg (sz := 3) (rows := a.map eSpan) (by simp [eSpan, cellsL])
    have hn := noIdL_flatC (rows := a.map eSpan) (by simp [eSpan, cellsL, noIdL, noId])
    have hl := flatC_length hr
    rw [List.length_map] at hl hc
    have hp : 0 < a.length := List.length_pos_iff.2 h0
    have hne : ¬ a.length * 3 = 0 := by omega
    simp [c69, go_sem, eL, app_1 (rows := a.map eSpan) sl27 in27 by112 zc27 hr (by simpa using h0) (by simp; omega) (by simp; omega) (by omega), hl, hn, hc, h0, hne]
noncomputable def C59 : FzC := ⟨F2 eY eY fun a b => .bool (decide (a = b)), [.one .is, .one .is]⟩
theorem ok59 (hP : ProgOK Tryz.prog X []) (hZ : ZOk Tryz.prog Z) (hz : zOf Z 59 = none) (a b : List UInt8) : FnOk Tryz.prog 59 [eY a, eY b] (.bool (decide (a = b))) := by
  refine fn_by hP hZ i59 hz 10 1 (.one .is) rfl ?_
  simp [c59, go_sem, eY]
theorem ok77 (hP : ProgOK Tryz.prog X []) (hZ : ZOk Tryz.prog Z) (h59 : zOf Z 59 = some C59) (hz : zOf Z 77 = none) (a b : Eff) : FnOk Tryz.prog 77 [eEff a, eEff b] (.bool (effS a b)) := by
  refine fn_by hP hZ i77 hz 10 1 (.one .is) rfl ?_
  by_cases h1 : a.k = b.k
  · by_cases h2 : a.m = b.m
    · simp [c77, go_sem, eEff, h1.symm, h2.symm, effS, h59, C59]
    · simp [c77, go_sem, eEff, h1.symm, h2, effS, h59, C59]
  · simp [c77, go_sem, eEff, h1, effS, h59, C59]
noncomputable def C68 : FzC := ⟨F1p eEff (fun e => decide (e.b.length < 1000000)) fun e => eEff e, [.one .is]⟩
theorem ok68 (hP : ProgOK Tryz.prog X []) (hZ : ZOk Tryz.prog Z) (h112 : zOf Z 112 = some C112) (hz : zOf Z 68 = none) (a : Eff) (ha : a.b.length < 1000000) : FnOk Tryz.prog 68 [eEff a] (eEff a) := by
  refine fn_by hP hZ i68 hz 10 1 (.one .is) rfl ?_
  simp [c68, go_sem, eEff, h112, C112, ha, eY]
end Go.Proofs.YtpnaenbpffhjfaaGreatDoor.Z1

namespace Go.Proofs.YtpnaenbpffhjfaaGreatDoor.Z1
open Go.Proofs.YtpnaenbpffhjfaaGreatDoor.Ev
set_option maxHeartbeats 1000000
set_option maxRecDepth 10000
variable {X : List (Nat × Ext)} {Z : List (Nat × FzC)}
/-! Events -/
structure Evn where
  d : Dot
  p : ByteArray
  e : Eff
  l : List Span
def eEvn (v : Evn) : Value := .agg ⟨[.int .i64 v.d.n, .int .i64 v.d.s, .string v.p, .int .i64 v.e.k, .int .i64 v.e.m, fz (v.e.b.map eU8), fz (v.l.map eSpan)]⟩
theorem eEvn_inj (a b : Evn) (h : eEvn a = eEvn b) : a = b := by
  obtain ⟨⟨n, s⟩, p, ⟨k, m, x⟩, l⟩ := a
  obtain ⟨⟨n', s'⟩, p', ⟨k', m', y⟩, l'⟩ := b
  simp only [eEvn, Value.agg.injEq, Array.mk.injEq, List.cons.injEq, Value.int.injEq, Value.string.injEq, and_true, true_and] at h
  obtain ⟨rfl, rfl, rfl, rfl, rfl, h1, h2⟩ := h
  rw [eY_inj x y h1, eL_inj eSpan_inj l l' h2]
@[go_sem] theorem dec_evn (n s : Int) (p : ByteArray) (k m : Int) (b : List UInt8) (l : List Span) : dec eEvn (.agg ⟨[.int .i64 n, .int .i64 s, .string p, .int .i64 k, .int .i64 m, fz (b.map eU8), fz (l.map eSpan)]⟩) = some ⟨⟨n, s⟩, p, ⟨k, m, b⟩, l⟩ := dec_enc eEvn_inj ⟨⟨n, s⟩, p, ⟨k, m, b⟩, l⟩
def smallE (v : Evn) : Bool := decide (v.e.b.length < 1000000) && decide (v.l.length < 1000000)
noncomputable def C13 : FzC := ⟨F1p eEvn smallE fun v => eEvn v, [.one .is]⟩
theorem ok13 (hP : ProgOK Tryz.prog X []) (hZ : ZOk Tryz.prog Z) (h68 : zOf Z 68 = some C68) (h69 : zOf Z 69 = some C69) (hz : zOf Z 13 = none) (v : Evn) (hv : smallE v = true) : FnOk Tryz.prog 13 [eEvn v] (eEvn v) := by
  refine fn_by hP hZ i13 hz 10 1 (.one .is) rfl ?_
  simp only [smallE, Bool.and_eq_true, decide_eq_true_eq] at hv
  simp [c13, go_sem, eEvn, eEff, eL, h68, h69, C68, C69, hv.1, hv.2]
theorem span_at {l : List Span} {k : Nat} (h : k < l.length) : idxSl (fz (l.map eSpan)) 3 (k : Int) = .val (fp [.int .i64 l[k].n, .int .i64 l[k].f, .int .i64 l[k].t]) := idx_map h fun _ => rfl

section
open Go.Op
theorem un3 : Tryz.prog.underlying 3 = some (.int .i64) := by kernel_rfl
theorem fs112 : isStr (Tryz.prog.underlying 112) [("Node", 3, 0), ("From", 3, 1), ("To", 3, 2)] = true := by kernel_rfl
theorem fs23 : isStr (Tryz.prog.underlying 23) [("Node", 3, 0), ("Seq", 3, 1)] = true := by kernel_rfl
theorem in112 (a b c d e f : Int) : pureRun Tryz.prog (equalIn 10000 112 (.agg ⟨[.int .i64 a, .int .i64 b, .int .i64 c]⟩) (.agg ⟨[.int .i64 d, .int .i64 e, .int .i64 f]⟩)) = some (decide (a = d) && (decide (b = e) && decide (c = f))) := by
  rw [eq_ints fs112 (by kernel_rfl) un3 9998 _ _ (fun n => match n with | 0 => a == d | 1 => b == e | _ => c == f) (by
    intro n hn
    simp only [List.mem_cons, List.not_mem_nil, or_false] at hn
    rcases hn with rfl | rfl | rfl
    · exact ⟨by decide, rfl, a, d, by kernel_rfl, by kernel_rfl, rfl⟩
    · exact ⟨by decide, rfl, b, e, by kernel_rfl, by kernel_rfl, rfl⟩
    · exact ⟨by decide, rfl, c, f, by kernel_rfl, by kernel_rfl, rfl⟩)]
  simp
  rfl
theorem in23 (a b d e : Int) : pureRun Tryz.prog (equalIn 10000 23 (.agg ⟨[.int .i64 a, .int .i64 b]⟩) (.agg ⟨[.int .i64 d, .int .i64 e]⟩)) = some (decide (a = d) && decide (b = e)) := by
  rw [eq_ints fs23 (by kernel_rfl) un3 9998 _ _ (fun n => match n with | 0 => a == d | _ => b == e) (by
    intro n hn
    simp only [List.mem_cons, List.not_mem_nil, or_false] at hn
    rcases hn with rfl | rfl
    · exact ⟨by decide, rfl, a, d, by kernel_rfl, by kernel_rfl, rfl⟩
    · exact ⟨by decide, rfl, b, e, by kernel_rfl, by kernel_rfl, rfl⟩)]
  simp
  rfl
end
@[go_sem] theorem eql112 (a b c d e f : Int) (ox oy : Operand) : evBin (.agg ⟨[.int .i64 a, .int .i64 b, .int .i64 c]⟩) (.agg ⟨[.int .i64 d, .int .i64 e, .int .i64 f]⟩) { P := Tryz.prog, op := .eql, t := 112, ox, oy } = .val (.bool (decide (a = d) && (decide (b = e) && decide (c = f)))) := bin_agg_eql (by kernel_rfl) rfl rfl (by kernel_rfl) (in112 ..)
@[go_sem] theorem neq112 (a b c d e f : Int) (ox oy : Operand) : evBin (.agg ⟨[.int .i64 a, .int .i64 b, .int .i64 c]⟩) (.agg ⟨[.int .i64 d, .int .i64 e, .int .i64 f]⟩) { P := Tryz.prog, op := .neq, t := 112, ox, oy } = .val (.bool (!(decide (a = d) && (decide (b = e) && decide (c = f))))) := bin_agg_neq (by kernel_rfl) rfl rfl (by kernel_rfl) (in112 ..)
@[go_sem] theorem eql23 (a b d e : Int) (ox oy : Operand) : evBin (.agg ⟨[.int .i64 a, .int .i64 b]⟩) (.agg ⟨[.int .i64 d, .int .i64 e]⟩) { P := Tryz.prog, op := .eql, t := 23, ox, oy } = .val (.bool (decide (a = d) && decide (b = e))) := bin_agg_eql (by kernel_rfl) rfl rfl (by kernel_rfl) (in23 ..)
def spE (x y : Span) : Bool := decide (x.n = y.n) && decide (x.f = y.f) && decide (x.t = y.t)
def sameSp : List Span → List Span → Bool
  | [], [] => true
  | x :: l, y :: m => spE x y && sameSp l m
  | _, _ => false
theorem sameSp_len : ∀ {a b : List Span}, a.length ≠ b.length → sameSp a b = false
  | [], [], h => absurd rfl h
  | [], _ :: _, _ => rfl
  | _ :: _, [], _ => rfl
  | x :: l, y :: m, h => by simp only [List.length_cons, ne_eq, Nat.add_right_cancel_iff] at h; simp [sameSp, sameSp_len h]
def I78 (a b : List Span) (m : Nat) (tm : Tr Value) (df : List DfE) (h : Hp) (nx : Nat) : Prop := ∃ k, k ≤ a.length ∧ m = a.length - k ∧ df = [] ∧ tm.get 0 = some (fz (a.map eSpan)) ∧ tm.get 1 = some (fz (b.map eSpan)) ∧ tm.get 5 = some (.int .i64 k) ∧ sameSp a b = sameSp (a.drop k) (b.drop k)
theorem ok78 (hP : ProgOK Tryz.prog X []) (hZ : ZOk Tryz.prog Z) (hz : zOf Z 78 = none) (a b : List Span) (ha : a.length < 1000000) : FnOk Tryz.prog 78 [eL eSpan a, eL eSpan b] (.bool (sameSp a b)) := by
  refine fn_by hP hZ i78 hz (a.length + 1) 1 (.one .is) rfl ?_
  by_cases hl : a.length = b.length
  · have hl' : (a.length : Int) = b.length := by omega
    simp only [c78, go_sem, eL, Nat.reduceEqDiff, List.length_map, hl', decide_true, Bool.not_true]
    refine tot_loop (I78 a b) (m := a.length) (by omega) ⟨0, by omega, by omega, rfl, by simp [go_sem], by simp [go_sem], by simp [go_sem], rfl⟩ ?_
    rintro m tm df h nx ⟨k, hk, hm, rfl, h0, h1, h5, hc⟩
    by_cases hkl : k < a.length
    · have hkb : k < b.length := by omega
      have hx := span_at hkl
      have hy := span_at hkb
      have hd : a.drop k = a[k] :: a.drop (k + 1) := List.drop_eq_getElem_cons hkl
      have he : b.drop k = b[k] :: b.drop (k + 1) := List.drop_eq_getElem_cons hkb
      have hw : IntKind.wrap .i64 ((k : Int) + 1) = ((k + 1 : Nat) : Int) := by rw [wrap64 (by omega) (by omega)]; omega
      rw [hd, he] at hc
      by_cases c1 : a[k].n = b[k].n
      · by_cases c2 : a[k].f = b[k].f
        · by_cases c3 : a[k].t = b[k].t
          · simp [go_sem, h0, h1, h5, hx, hy, hkl, hkb, hw, hl', c1, c2, c3]
            exact ⟨a.length - (k + 1), by omega, k + 1, by omega, rfl, rfl, by simp [go_sem, h0], by simp [go_sem, h1], by simp [go_sem], by rw [hc]; simp [sameSp, spE, c1, c2, c3]⟩
          · have hf : sameSp a b = false := by rw [hc]; simp [sameSp, spE, c3]
            simp [go_sem, h0, h1, h5, hx, hy, hkl, hkb, hw, hl', c1, c2, c3, hf]
        · have hf : sameSp a b = false := by rw [hc]; simp [sameSp, spE, c2]
          simp [go_sem, h0, h1, h5, hx, hy, hkl, hkb, hw, hl', c1, c2, hf]
      · have hf : sameSp a b = false := by rw [hc]; simp [sameSp, spE, c1]
        simp [go_sem, h0, h1, h5, hx, hy, hkl, hkb, hw, hl', c1, hf]
    · simp [go_sem, h0, h1, h5, hkl]
      have hkk : k = a.length := by omega
      subst hkk
      have e1 : a.drop a.length = [] := List.drop_length
      have e2 : b.drop a.length = [] := by rw [hl]; exact List.drop_length
      rw [hc, e1, e2]; rfl
  · have hl' : ¬ (a.length : Int) = b.length := by omega
    simp [c78, go_sem, eL, hl', hl, sameSp_len hl]

noncomputable def C77 : FzC := ⟨F2 eEff eEff fun a b => .bool (effS a b), [.one .is, .one .is]⟩
noncomputable def C78 : FzC := ⟨F2p (eL eSpan) (eL eSpan) (fun a _ => decide (a.length < 1000000)) fun a b => .bool (sameSp a b), [.one .is, .one .is]⟩
def sameEv (a b : Evn) : Bool := decide (a.d.n = b.d.n) && decide (a.d.s = b.d.s) && decide (a.p = b.p) && effS a.e b.e && sameSp a.l b.l
theorem ok18 (hP : ProgOK Tryz.prog X []) (hZ : ZOk Tryz.prog Z) (h77 : zOf Z 77 = some C77) (h78 : zOf Z 78 = some C78) (hz : zOf Z 18 = none) (a b : Evn) (ha : smallE a = true) : FnOk Tryz.prog 18 [eEvn a, eEvn b] (.bool (sameEv a b)) := by
  refine fn_by hP hZ i18 hz 10 1 (.one .is) rfl ?_
  simp only [smallE, Bool.and_eq_true, decide_eq_true_eq] at ha
  by_cases c1 : a.d.n = b.d.n
  · by_cases c2 : a.d.s = b.d.s
    · by_cases c3 : a.p = b.p
      · cases c4 : effS a.e b.e with
        | true => simp [c18, go_sem, eEvn, h77, h78, C77, C78, c1, c2, c3, c4, ha.2, sameEv]
        | false => simp [c18, go_sem, eEvn, h77, h78, C77, C78, c1, c2, c3, c4, ha.2, sameEv]
      · simp [c18, go_sem, eEvn, h77, h78, C77, C78, c1, c2, c3, sameEv]
    · simp [c18, go_sem, eEvn, h77, h78, C77, C78, c1, c2, sameEv]
  · simp [c18, go_sem, eEvn, h77, h78, C77, C78, c1, sameEv]
end Go.Proofs.YtpnaenbpffhjfaaGreatDoor.Z1

namespace Go.Proofs.YtpnaenbpffhjfaaGreatDoor.Z1
open Go.Proofs.YtpnaenbpffhjfaaGreatDoor.Ev
set_option maxHeartbeats 1000000
set_option maxRecDepth 10000
variable {X : List (Nat × Ext)} {Z : List (Nat × FzC)}
def longE (v : Evn) : Bool := decide (100 < (lenB v.p : Int)) || decide (1200 < v.e.b.length) || decide (100 < (v.l.length : Int))
def lv (most : Int) : List Evn → Int → Bool
  | [], _ => false
  | v :: r, i => if i ≤ most then longE v || lv most r (i + 1) else false
def longEvs (l : List Evn) (most : Int) : Bool := lv most l 0 || decide (most < l.length)
theorem evn_at {l : List Evn} {k : Nat} (h : k < l.length) : idxSl (fz (l.map eEvn)) 7 (k : Int) = .val (fp (cellsL (eEvn l[k]))) := idx_map h fun _ => rfl
def I11 (l : List Evn) (most : Int) (m : Nat) (tm : Tr Value) (df : List DfE) (h : Hp) (nx : Nat) : Prop := ∃ k, k ≤ l.length ∧ m = l.length - k ∧ df = [] ∧ tm.get 0 = some (fz (l.map eEvn)) ∧ tm.get 1 = some (.int .i64 most) ∧ tm.get 5 = some (.int .i64 k) ∧ lv most l 0 = lv most (l.drop k) k
theorem ok11 (hP : ProgOK Tryz.prog X []) (hZ : ZOk Tryz.prog Z) (h64 : zOf Z 64 = some C64) (hz : zOf Z 11 = none) (l : List Evn) (most : Int) (ha : l.length < 1000000) : FnOk Tryz.prog 11 [eL eEvn l, eI most] (.bool (longEvs l most)) := by
  refine fn_by hP hZ i11 hz (l.length + 1) 1 (.one .is) rfl ?_
  simp only [c11, go_sem, eL, eI, Nat.reduceEqDiff, List.length_map]
  refine tot_loop (I11 l most) (m := l.length) (by omega) ⟨0, by omega, by omega, rfl, by simp [go_sem], by simp [go_sem], by simp [go_sem], rfl⟩ ?_
  rintro m tm df h nx ⟨k, hk, hm, rfl, h0, h1, h5, hc⟩
  have fin : lv most l 0 = false → longEvs l most = decide (most < l.length) := fun e => by simp [longEvs, e]
  have hit : lv most l 0 = true → longEvs l most = true := fun e => by simp [longEvs, e]
  by_cases hkl : k < l.length
  · have hx := evn_at hkl
    obtain ⟨v, hv⟩ : ∃ v, l[k] = v := ⟨_, rfl⟩
    have hd : l.drop k = l[k] :: l.drop (k + 1) := List.drop_eq_getElem_cons hkl
    have hw : IntKind.wrap .i64 ((k : Int) + 1) = ((k + 1 : Nat) : Int) := by rw [wrap64 (by omega) (by omega)]; omega
    rw [hv] at hx hd
    rw [hd] at hc
    simp only [eEvn, cellsL] at hx
    by_cases hmo : (k : Int) ≤ most
    · by_cases c1 : (100 : Int) < (lenB v.p : Int)
      · have := hit (by rw [hc]; simp [lv, hmo, longE, c1])
        simp [go_sem, h0, h1, h5, hx, hkl, hmo, c1, this, h64, C64]
      · by_cases c2 : 1200 < v.e.b.length
        · have := hit (by rw [hc]; simp [lv, hmo, longE, c2])
          simp [go_sem, h0, h1, h5, hx, hkl, hmo, c1, c2, this, h64, C64]

        · by_cases c3 : (100 : Int) < (v.l.length : Int)
          · have := hit (by rw [hc]; simp [lv, hmo, longE, c3])
            simp [go_sem, h0, h1, h5, hx, hkl, hmo, c1, c2, c3, this, h64, C64]
          · simp [go_sem, h0, h1, h5, hx, hkl, hmo, c1, c2, c3, h64, C64, hw]
            exact ⟨l.length - (k + 1), by omega, k + 1, by omega, rfl, rfl, by simp [go_sem, h0], by simp [go_sem, h1], by simp [go_sem], by rw [hc]; simp [lv, hmo, longE, c1, c2, c3]⟩
    · have := fin (by rw [hc]; simp [lv, hmo])
      simp [go_sem, h0, h1, h5, hkl, hmo, this]
  · have hkk : k = l.length := by omega
    have := fin (by rw [hc, hkk, List.drop_length]; rfl)
    simp [go_sem, h0, h1, h5, hkl, this]
end Go.Proofs.YtpnaenbpffhjfaaGreatDoor.Z1

