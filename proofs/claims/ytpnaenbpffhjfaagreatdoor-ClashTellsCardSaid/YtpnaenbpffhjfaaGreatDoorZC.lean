/- Clashes at all inputs. No conditions. -/
import Derived.Test.YtpnaenbpffhjfaaGreatDoorZB
set_option linter.unusedVariables false
set_option linter.unusedSimpArgs false
set_option linter.all false
namespace Go.Proofs.YtpnaenbpffhjfaaGreatDoor.Z1
open Go.Proofs.YtpnaenbpffhjfaaGreatDoor.Ev
set_option maxHeartbeats 2000000
set_option maxRecDepth 10000
variable {X : List (Nat × Ext)} {Z : List (Nat × FzC)}
/-! Ahead -/
def aheadS (chk : ByteArray → Bool) (a b : Evn) : Bool := decide (evC chk a = 0) && decide (evC chk b = 0) && hasS b.l a.d
def evS2 (a b : Evn) : Bool := evS a && evS b
noncomputable def C33 (chk : ByteArray → Bool) : FzC := ⟨F2p eEvn eEvn evS2 fun a b => .bool (aheadS chk a b), [.one .is, .one .is]⟩
theorem ok33 (chk : ByteArray → Bool) (hP : ProgOK Tryz.prog X []) (hZ : ZOk Tryz.prog Z) (h42 : zOf Z 42 = some (C42 chk)) (h87 : zOf Z 87 = some C87) (hz : zOf Z 33 = none) (a b : Evn) (ha : evS a = true) (hb : evS b = true) : FnOk Tryz.prog 33 [eEvn a, eEvn b] (.bool (aheadS chk a b)) := by
  refine fn_by hP hZ i33 hz 10 1 (.one .is) rfl ?_
  have hbl : b.l.length < 1000000 := by simp only [evS, smallE, Bool.and_eq_true, decide_eq_true_eq] at hb; exact hb.1.2
  by_cases a1 : evC chk a = 0
  · by_cases a2 : evC chk b = 0
    · simp [c33, go_sem, eEvn, eL, eDot, h42, h87, C42, C87, ha, hb, a1, a2, aheadS, hbl]
    · simp [c33, go_sem, eEvn, eL, eDot, h42, h87, C42, C87, ha, hb, a1, a2, aheadS]
  · simp [c33, go_sem, eEvn, eL, eDot, h42, h87, C42, C87, ha, hb, a1, aheadS]
theorem ok74 (chk : ByteArray → Bool) (hP : ProgOK Tryz.prog X []) (hZ : ZOk Tryz.prog Z) (h73 : zOf Z 73 = some (C42 chk)) (h131 : zOf Z 131 = some C87) (hz : zOf Z 74 = none) (a b : Evn) (ha : evS a = true) (hb : evS b = true) : FnOk Tryz.prog 74 [eEvn a, eEvn b] (.bool (aheadS chk a b)) := by
  refine fn_by hP hZ i74 hz 10 1 (.one .is) rfl ?_
  have hbl : b.l.length < 1000000 := by simp only [evS, smallE, Bool.and_eq_true, decide_eq_true_eq] at hb; exact hb.1.2
  by_cases a1 : evC chk a = 0
  · by_cases a2 : evC chk b = 0
    · simp [c74, go_sem, eEvn, eL, eDot, h73, h131, C42, C87, ha, hb, a1, a2, aheadS, hbl]
    · simp [c74, go_sem, eEvn, eL, eDot, h73, h131, C42, C87, ha, hb, a1, a2, aheadS]
  · simp [c74, go_sem, eEvn, eL, eDot, h73, h131, C42, C87, ha, hb, a1, aheadS]
/-! over -/
noncomputable def C86 (chk : ByteArray → Bool) : FzC := ⟨F2p eS eS (fun a b => pathS a && pathS b) fun a b => .bool (undB chk a b), [.one .is, .one .is]⟩
def overS (chk : ByteArray → Bool) (a b : Evn) : Bool := undB chk a.p b.p && (!decide (a.e.k = 2)) && (!decide (b.e.k = 3))
noncomputable def C72 (chk : ByteArray → Bool) : FzC := ⟨F2p eEvn eEvn evS2 fun a b => .bool (overS chk a b), [.one .is, .one .is]⟩
theorem ok72 (chk : ByteArray → Bool) (hP : ProgOK Tryz.prog X []) (hZ : ZOk Tryz.prog Z) (h86 : zOf Z 86 = some (C86 chk)) (hz : zOf Z 72 = none) (a b : Evn) (ha : evS a = true) (hb : evS b = true) : FnOk Tryz.prog 72 [eEvn a, eEvn b] (.bool (overS chk a b)) := by
  refine fn_by hP hZ i72 hz 10 1 (.one .is) rfl ?_
  simp only [evS, Bool.and_eq_true] at ha hb
  cases a1 : undB chk a.p b.p with
  | true =>
    by_cases a2 : a.e.k = 2
    · simp [c72, go_sem, eEvn, h86, C86, ha.2, hb.2, a1, a2, overS]
    · by_cases a3 : b.e.k = 3
      · simp [c72, go_sem, eEvn, h86, C86, ha.2, hb.2, a1, a2, a3, overS]
      · simp [c72, go_sem, eEvn, h86, C86, ha.2, hb.2, a1, a2, a3, overS]
  | false => simp [c72, go_sem, eEvn, h86, C86, ha.2, hb.2, a1, overS]
theorem ok76 (chk : ByteArray → Bool) (hP : ProgOK Tryz.prog X []) (hZ : ZOk Tryz.prog Z) (h132 : zOf Z 132 = some (C86 chk)) (hz : zOf Z 76 = none) (a b : Evn) (ha : evS a = true) (hb : evS b = true) : FnOk Tryz.prog 76 [eEvn a, eEvn b] (.bool (overS chk a b)) := by
  refine fn_by hP hZ i76 hz 10 1 (.one .is) rfl ?_
  simp only [evS, Bool.and_eq_true] at ha hb
  cases a1 : undB chk a.p b.p with
  | true =>
    by_cases a2 : a.e.k = 2
    · simp [c76, go_sem, eEvn, h132, C86, ha.2, hb.2, a1, a2, overS]
    · by_cases a3 : b.e.k = 3
      · simp [c76, go_sem, eEvn, h132, C86, ha.2, hb.2, a1, a2, a3, overS]
      · simp [c76, go_sem, eEvn, h132, C86, ha.2, hb.2, a1, a2, a3, overS]
  | false => simp [c76, go_sem, eEvn, h132, C86, ha.2, hb.2, a1, overS]
end Go.Proofs.YtpnaenbpffhjfaaGreatDoor.Z1

namespace Go.Proofs.YtpnaenbpffhjfaaGreatDoor.Z1
open Go.Proofs.YtpnaenbpffhjfaaGreatDoor.Ev
set_option maxHeartbeats 4000000
set_option maxRecDepth 10000
variable {X : List (Nat × Ext)} {Z : List (Nat × FzC)}
/-! Clash -/
def clashS (chk : ByteArray → Bool) (a b : Evn) : Bool :=
  if (((!decide (evC chk a = 0)) || (!decide (evC chk b = 0))) || (decide (a.d.n = b.d.n) && decide (a.d.s = b.d.s))) || aheadS chk a b || aheadS chk b a then false
  else (decide (a.p = b.p) && !effS a.e b.e) || overS chk a b || overS chk b a
noncomputable def C16 (chk : ByteArray → Bool) : FzC := ⟨F2p eEvn eEvn evS2 fun a b => .bool (clashS chk a b), [.one .is, .one .is]⟩
noncomputable def C71s : FzC := ⟨F2 eEff eEff fun a b => .bool (effS a b), [.one .is, .one .is]⟩
theorem ok17 (chk : ByteArray → Bool) (hP : ProgOK Tryz.prog X []) (hZ : ZOk Tryz.prog Z) (h73 : zOf Z 73 = some (C42 chk)) (h74 : zOf Z 74 = some (C33 chk)) (h75 : zOf Z 75 = some C71s) (h76 : zOf Z 76 = some (C72 chk)) (hz : zOf Z 17 = none) (a b : Evn) (ha : evS a = true) (hb : evS b = true) : FnOk Tryz.prog 17 [eEvn a, eEvn b] (.bool (clashS chk a b)) := by
  refine fn_by hP hZ i17 hz 10 1 (.one .is) rfl ?_
  by_cases a1 : evC chk a = 0
  rotate_left
  · simp [c17, go_sem, eEvn, eEff, h73, h74, h75, h76, C42, C33, C71s, C72, evS2, ha, hb, clashS, a1]
  by_cases a2 : evC chk b = 0
  rotate_left
  · simp [c17, go_sem, eEvn, eEff, h73, h74, h75, h76, C42, C33, C71s, C72, evS2, ha, hb, clashS, a1, a2]
  cases dd : (decide (a.d.n = b.d.n) && decide (a.d.s = b.d.s))
  rotate_left
  · simp [c17, go_sem, eEvn, eEff, h73, h74, h75, h76, C42, C33, C71s, C72, evS2, ha, hb, clashS, a1, a2, dd]
  cases h1 : aheadS chk a b
  rotate_left
  · simp [c17, go_sem, eEvn, eEff, h73, h74, h75, h76, C42, C33, C71s, C72, evS2, ha, hb, clashS, a1, a2, dd, h1]
  cases h2 : aheadS chk b a
  rotate_left
  · simp [c17, go_sem, eEvn, eEff, h73, h74, h75, h76, C42, C33, C71s, C72, evS2, ha, hb, clashS, a1, a2, dd, h1, h2]
  cases p1 : decide (a.p = b.p)
  rotate_left
  · cases e1 : effS a.e b.e with
    | false => simp [c17, go_sem, eEvn, eEff, h73, h74, h75, h76, C42, C33, C71s, C72, evS2, ha, hb, clashS, a1, a2, dd, h1, h2, p1, e1]
    | true =>
      cases o1 : overS chk a b with
      | true => simp [c17, go_sem, eEvn, eEff, h73, h74, h75, h76, C42, C33, C71s, C72, evS2, ha, hb, clashS, a1, a2, dd, h1, h2, p1, e1, o1]
      | false => cases o2 : overS chk b a <;> simp [c17, go_sem, eEvn, eEff, h73, h74, h75, h76, C42, C33, C71s, C72, evS2, ha, hb, clashS, a1, a2, dd, h1, h2, p1, e1, o1, o2]
  · cases o1 : overS chk a b with
    | true => simp [c17, go_sem, eEvn, eEff, h73, h74, h75, h76, C42, C33, C71s, C72, evS2, ha, hb, clashS, a1, a2, dd, h1, h2, p1, o1]
    | false => cases o2 : overS chk b a <;> simp [c17, go_sem, eEvn, eEff, h73, h74, h75, h76, C42, C33, C71s, C72, evS2, ha, hb, clashS, a1, a2, dd, h1, h2, p1, o1, o2]
theorem ok16 (chk : ByteArray → Bool) (hP : ProgOK Tryz.prog X []) (hZ : ZOk Tryz.prog Z) (h42 : zOf Z 42 = some (C42 chk)) (h33 : zOf Z 33 = some (C33 chk)) (h71 : zOf Z 71 = some C71s) (h72 : zOf Z 72 = some (C72 chk)) (hz : zOf Z 16 = none) (a b : Evn) (ha : evS a = true) (hb : evS b = true) : FnOk Tryz.prog 16 [eEvn a, eEvn b] (.bool (clashS chk a b)) := by
  refine fn_by hP hZ i16 hz 10 1 (.one .is) rfl ?_
  by_cases a1 : evC chk a = 0
  rotate_left
  · simp [c16, go_sem, eEvn, eEff, h42, h33, h71, h72, C42, C33, C71s, C72, evS2, ha, hb, clashS, a1]
  by_cases a2 : evC chk b = 0
  rotate_left
  · simp [c16, go_sem, eEvn, eEff, h42, h33, h71, h72, C42, C33, C71s, C72, evS2, ha, hb, clashS, a1, a2]
  cases dd : (decide (a.d.n = b.d.n) && decide (a.d.s = b.d.s))
  rotate_left
  · simp [c16, go_sem, eEvn, eEff, h42, h33, h71, h72, C42, C33, C71s, C72, evS2, ha, hb, clashS, a1, a2, dd]
  cases h1 : aheadS chk a b
  rotate_left
  · simp [c16, go_sem, eEvn, eEff, h42, h33, h71, h72, C42, C33, C71s, C72, evS2, ha, hb, clashS, a1, a2, dd, h1]
  cases h2 : aheadS chk b a
  rotate_left
  · simp [c16, go_sem, eEvn, eEff, h42, h33, h71, h72, C42, C33, C71s, C72, evS2, ha, hb, clashS, a1, a2, dd, h1, h2]
  cases p1 : decide (a.p = b.p)
  rotate_left
  · cases e1 : effS a.e b.e with
    | false => simp [c16, go_sem, eEvn, eEff, h42, h33, h71, h72, C42, C33, C71s, C72, evS2, ha, hb, clashS, a1, a2, dd, h1, h2, p1, e1]
    | true =>
      cases o1 : overS chk a b with
      | true => simp [c16, go_sem, eEvn, eEff, h42, h33, h71, h72, C42, C33, C71s, C72, evS2, ha, hb, clashS, a1, a2, dd, h1, h2, p1, e1, o1]
      | false => cases o2 : overS chk b a <;> simp [c16, go_sem, eEvn, eEff, h42, h33, h71, h72, C42, C33, C71s, C72, evS2, ha, hb, clashS, a1, a2, dd, h1, h2, p1, e1, o1, o2]
  · cases o1 : overS chk a b with
    | true => simp [c16, go_sem, eEvn, eEff, h42, h33, h71, h72, C42, C33, C71s, C72, evS2, ha, hb, clashS, a1, a2, dd, h1, h2, p1, o1]
    | false => cases o2 : overS chk b a <;> simp [c16, go_sem, eEvn, eEff, h42, h33, h71, h72, C42, C33, C71s, C72, evS2, ha, hb, clashS, a1, a2, dd, h1, h2, p1, o1, o2]
end Go.Proofs.YtpnaenbpffhjfaaGreatDoor.Z1

namespace Go.Proofs.YtpnaenbpffhjfaaGreatDoor.Z1
open Go.Proofs.YtpnaenbpffhjfaaGreatDoor.Ev
set_option maxHeartbeats 4000000
set_option maxRecDepth 10000
variable {X : List (Nat × Ext)} {Z : List (Nat × FzC)}
/-! PairOf -/
def pairV (a b : Dot) : Value := .tuple ⟨[.agg ⟨[.int .i64 a.n, .int .i64 a.s, .int .i64 b.n, .int .i64 b.s]⟩, .int .i64 0]⟩
def pairS (chk : ByteArray → Bool) (a b : Evn) : Value := if clashS chk a b then (if dotL b.d a.d then pairV b.d a.d else pairV a.d b.d) else .tuple ⟨[.agg ⟨[.int .i64 0, .int .i64 0, .int .i64 0, .int .i64 0]⟩, .int .i64 2]⟩
noncomputable def C14 (chk : ByteArray → Bool) : FzC := ⟨F2p eEvn eEvn evS2 (pairS chk), [.one .is, .one .is]⟩
theorem clash_ne {chk : ByteArray → Bool} {a b : Evn} (h : clashS chk a b = true) : ¬ (a.d.n = b.d.n ∧ a.d.s = b.d.s) := by
  rintro ⟨h1, h2⟩
  simp [clashS, h1, h2] at h
theorem dotL_ne {a b : Dot} (h : ¬ (a.n = b.n ∧ a.s = b.s)) : dotL a b = !dotL b a := by
  unfold dotL
  by_cases h1 : a.n < b.n
  · have h2 : ¬ b.n < a.n := by omega
    have h3 : ¬ b.n = a.n := by omega
    simp [h1, h2, h3]
  by_cases h2 : b.n < a.n
  · have h3 : ¬ a.n = b.n := by omega
    simp [h1, h2, h3]
  have h3 : a.n = b.n := by omega
  have h5 : ¬ a.s = b.s := fun e => h ⟨h3, e⟩
  by_cases h4 : a.s < b.s
  · have h6 : ¬ b.s < a.s := by omega
    simp [h1, h2, h3, h4, h6]
  · have h6 : b.s < a.s := by omega
    simp [h1, h2, h3, h4, h6]
theorem pairS_noId (chk : ByteArray → Bool) (a b : Evn) : noId (pairS chk a b) = true := by
  unfold pairS pairV
  split
  · split <;> simp [go_sem]
  · simp [go_sem]
theorem ok15 (chk : ByteArray → Bool) (hP : ProgOK Tryz.prog X []) (hZ : ZOk Tryz.prog Z) (h17 : zOf Z 17 = some (C16 chk)) (h70 : zOf Z 70 = some C70) (hz : zOf Z 15 = none) (a b : Evn) (ha : evS a = true) (hb : evS b = true) : FnOk Tryz.prog 15 [eEvn a, eEvn b] (pairS chk a b) := by
  refine fn_by hP hZ i15 hz 10 1 (.one .is) (pairS_noId chk a b) ?_
  cases c : clashS chk a b with
  | false => simp [c15, go_sem, eEvn, eDot, h17, h70, C16, C70, evS2, ha, hb, c, pairS]
  | true =>
    have hne := dotL_ne (clash_ne c)
    cases d : dotL b.d a.d with
    | true =>
      rw [d] at hne
      simp [c15, go_sem, eEvn, eDot, h17, h70, C16, C70, evS2, ha, hb, c, d, hne, pairS, pairV]
    | false =>
      rw [d] at hne
      simp [c15, go_sem, eEvn, eDot, h17, h70, C16, C70, evS2, ha, hb, c, d, hne, pairS, pairV]
theorem ok14 (chk : ByteArray → Bool) (hP : ProgOK Tryz.prog X []) (hZ : ZOk Tryz.prog Z) (h16 : zOf Z 16 = some (C16 chk)) (h35 : zOf Z 35 = some C70) (hz : zOf Z 14 = none) (a b : Evn) (ha : evS a = true) (hb : evS b = true) : FnOk Tryz.prog 14 [eEvn a, eEvn b] (pairS chk a b) := by
  refine fn_by hP hZ i14 hz 10 1 (.one .is) (pairS_noId chk a b) ?_
  cases c : clashS chk a b with
  | false => simp [c14, go_sem, eEvn, eDot, h16, h35, C16, C70, evS2, ha, hb, c, pairS]
  | true =>
    cases d : dotL b.d a.d with
    | true => simp [c14, go_sem, eEvn, eDot, h16, h35, C16, C70, evS2, ha, hb, c, d, pairS, pairV]
    | false => simp [c14, go_sem, eEvn, eDot, h16, h35, C16, C70, evS2, ha, hb, c, d, pairS, pairV]
end Go.Proofs.YtpnaenbpffhjfaaGreatDoor.Z1

namespace Go.Proofs.YtpnaenbpffhjfaaGreatDoor.Z1
open Go.Proofs.YtpnaenbpffhjfaaGreatDoor.Ev
set_option maxHeartbeats 8000000
set_option maxRecDepth 10000
variable {X : List (Nat × Ext)} {Z : List (Nat × FzC)}
@[go_sem] theorem dec_ev2 (n s : Int) (p : ByteArray) (k m : Int) (x : List UInt8) (l : List Span) (n' s' : Int) (p' : ByteArray) (k' m' : Int) (x' : List UInt8) (l' : List Span) :
    dec (eL eEvn) (fz [.agg ⟨[.int .i64 n, .int .i64 s, .string p, .int .i64 k, .int .i64 m, fz (x.map eU8), fz (l.map eSpan)]⟩, .agg ⟨[.int .i64 n', .int .i64 s', .string p', .int .i64 k', .int .i64 m', fz (x'.map eU8), fz (l'.map eSpan)]⟩]) = some [⟨⟨n, s⟩, p, ⟨k, m, x⟩, l⟩, ⟨⟨n', s'⟩, p', ⟨k', m', x'⟩, l'⟩] :=
  dec_list eEvn_inj [⟨⟨n, s⟩, p, ⟨k, m, x⟩, l⟩, ⟨⟨n', s'⟩, p', ⟨k', m', x'⟩, l'⟩]
@[go_sem] theorem bin_bool_eql (a b : Bool) (P : Program) (t : TypeId) (ox oy : Operand) (h : nilT P t = 6) : evBin (.bool a) (.bool b) { P, op := .eql, t, ox, oy } = .val (.bool (a == b)) := by
  show orL (match nilT P t with | 6 => eqL .eql (eqBool a b) | _ => .no) _ = _
  rw [h]
  cases a <;> cases b <;> rfl
@[go_sem] theorem sameV_agg (l m : List Value) : sameV (.agg ⟨l⟩) (.agg ⟨m⟩) = sameVL l m := by rw [sameV]
@[go_sem] theorem sameVL_cons' (a b : Value) (l m : List Value) : sameVL (a :: l) (b :: m) = (sameV a b && sameVL l m) := by rw [sameVL]
@[go_sem] theorem sameVL_nil' : sameVL [] [] = true := by rw [sameVL]
@[go_sem] theorem sameVL_u8s (b : List UInt8) : sameVL (b.map eU8) (b.map eU8) = true := sameVL_map (fun a => by simp [eU8, go_sem]) b
@[go_sem] theorem sameVL_spans (l : List Span) : sameVL (l.map eSpan) (l.map eSpan) = true := sameVL_map (fun a => by simp [eSpan, go_sem]) l
section
open Go.Op
theorem fs35 : isStr (Tryz.prog.underlying 35) [("A", 23, 0), ("B", 23, 2)] = true := by kernel_rfl
theorem in23' (a b d e : Int) : pureRun Tryz.prog (equalIn 9999 23 (.agg ⟨[.int .i64 a, .int .i64 b]⟩) (.agg ⟨[.int .i64 d, .int .i64 e]⟩)) = some (decide (a = d) && decide (b = e)) := by
  rw [eq_ints fs23 (by kernel_rfl) un3 9997 _ _ (fun n => match n with | 0 => a == d | _ => b == e) (by
    intro n hn
    simp only [List.mem_cons, List.not_mem_nil, or_false] at hn
    rcases hn with rfl | rfl
    · exact ⟨by decide, rfl, a, d, by kernel_rfl, by kernel_rfl, rfl⟩
    · exact ⟨by decide, rfl, b, e, by kernel_rfl, by kernel_rfl, rfl⟩)]
  simp
  rfl
theorem in35 (a b c d a' b' c' d' : Int) : pureRun Tryz.prog (equalIn 10000 35 (.agg ⟨[.int .i64 a, .int .i64 b, .int .i64 c, .int .i64 d]⟩) (.agg ⟨[.int .i64 a', .int .i64 b', .int .i64 c', .int .i64 d']⟩)) = some ((decide (a = a') && decide (b = b')) && (decide (c = c') && decide (d = d'))) := by
  rw [eq_fields fs35 (by kernel_rfl) 9999 _ _ (fun n => match n with | 0 => decide (a = a') && decide (b = b') | _ => decide (c = c') && decide (d = d')) (by
    intro n hn
    simp only [List.mem_cons, List.not_mem_nil, or_false] at hn
    rcases hn with rfl | rfl
    · exact ⟨by decide, .agg ⟨[.int .i64 a, .int .i64 b]⟩, .agg ⟨[.int .i64 a', .int .i64 b']⟩, by kernel_rfl, by kernel_rfl, in23' a b a' b'⟩
    · exact ⟨by decide, .agg ⟨[.int .i64 c, .int .i64 d]⟩, .agg ⟨[.int .i64 c', .int .i64 d']⟩, by kernel_rfl, by kernel_rfl, in23' c d c' d'⟩)]
  simp [List.all]
end
@[go_sem] theorem eql35 (a b c d a' b' c' d' : Int) (ox oy : Operand) : evBin (.agg ⟨[.int .i64 a, .int .i64 b, .int .i64 c, .int .i64 d]⟩) (.agg ⟨[.int .i64 a', .int .i64 b', .int .i64 c', .int .i64 d']⟩) { P := Tryz.prog, op := .eql, t := 35, ox, oy } = .val (.bool ((decide (a = a') && decide (b = b')) && (decide (c = c') && decide (d = d')))) := bin_agg_eql (by kernel_rfl) rfl rfl (by kernel_rfl) (in35 ..)
noncomputable def C11 : FzC := ⟨F2p (eL eEvn) eI (fun l _ => decide (l.length < 1000000)) fun l m => .bool (longEvs l m), [.one (.sl true 7), .one .is]⟩
noncomputable def C18 : FzC := ⟨F2p eEvn eEvn (fun a _ => smallE a) fun a b => .bool (sameEv a b), [.one .is, .one .is]⟩
noncomputable def C12 : FzC := ⟨fun us => match us with | [] => some (.bool true) | _ => none, []⟩
theorem long_ok {a b : Evn} (h : longEvs [a, b] 2 = false) : evS a = true ∧ evS b = true := by
  simp only [longEvs, lv, longE, Bool.or_eq_false_iff, decide_eq_false_iff_not] at h
  simp only [evS, smallE, pathS, Bool.and_eq_true, decide_eq_true_eq]
  simp at h
  omega
theorem sameSp_refl : ∀ l, sameSp l l = true
  | [] => rfl
  | x :: l => by simp [sameSp, spE, sameSp_refl l]
theorem sameEv_refl (a : Evn) : sameEv a a = true := by simp [sameEv, effS, sameSp_refl]
theorem ok3 (chk : ByteArray → Bool) (hP : ProgOK Tryz.prog X []) (hZ : ZOk Tryz.prog Z) (h11 : zOf Z 11 = some C11) (h12 : zOf Z 12 = some C12) (h13 : zOf Z 13 = some C13) (h14 : zOf Z 14 = some (C14 chk)) (h15 : zOf Z 15 = some (C14 chk)) (h16 : zOf Z 16 = some (C16 chk)) (h17 : zOf Z 17 = some (C16 chk)) (h18 : zOf Z 18 = some C18) (hz : zOf Z 3 = none) (a b : Evn) : FnOk Tryz.prog 3 [eEvn a, eEvn b] (.bool true) := by
  refine fn_by hP hZ i3 hz 10 1 (.one .is) rfl ?_
  cases c : longEvs [a, b] 2 with
  | true => simp [c3, go_sem, eEvn, eL, eI, h11, h12, C11, C12, c]
  | false =>
    obtain ⟨ha, hb⟩ := long_ok c
    have ha' := ha
    have hb' := hb
    simp only [evS, Bool.and_eq_true] at ha' hb'
    have e1 : sameEv a a = true := sameEv_refl a
    have e2 : sameEv b b = true := sameEv_refl b
    cases c1 : clashS chk a b with
    | false => simp [c3, go_sem, eEvn, eL, eI, h11, h12, h13, h14, h15, h16, h17, h18, C11, C12, C13, C14, C16, C18, c, ha, hb, ha'.1, hb'.1, evS2, e1, e2, c1, pairS]
    | true =>
      cases d : dotL b.d a.d with
      | true => simp [c3, go_sem, eEvn, eL, eI, h11, h12, h13, h14, h15, h16, h17, h18, C11, C12, C13, C14, C16, C18, c, ha, hb, ha'.1, hb'.1, evS2, e1, e2, c1, d, pairS, pairV]
      | false => simp [c3, go_sem, eEvn, eL, eI, h11, h12, h13, h14, h15, h16, h17, h18, C11, C12, C13, C14, C16, C18, c, ha, hb, ha'.1, hb'.1, evS2, e1, e2, c1, d, pairS, pairV]
end Go.Proofs.YtpnaenbpffhjfaaGreatDoor.Z1

