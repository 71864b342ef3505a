/- The evaluator, part 5: regions that draw; functions without a body; a table of what was reckoned before. No program in sight; no conditions. -/
import Derived.Test.YtpnaenbpffhjfaaGreatDoorEy4
import Derived.OrdersIn
import Derived.Lib.Bytealg
import Derived.Lib.BytesEntry
import Derived.Laws.Externs
set_option linter.unusedVariables false
set_option linter.unusedSimpArgs false
namespace Go.Proofs.YtpnaenbpffhjfaaGreatDoor.Ev
theorem lor_bit (a b t : Nat) : (Nat.lor a b).testBit t = (a.testBit t || b.testBit t) := Nat.testBit_or a b t
theorem pow_bit (t u : Nat) : (Nat.pow 2 t).testBit u = decide (t = u) := by
 show (2 ^ t).testBit u = _
 rw [Nat.testBit_two_pow]
theorem pow_self (t : Nat) : (Nat.pow 2 t).testBit t = true := by rw [pow_bit]; simp
theorem land_zero {a b t : Nat} (h : Nat.land a b = 0) (ha : a.testBit t = true) : b.testBit t = false := by
 have : (Nat.land a b).testBit t = (a.testBit t && b.testBit t) := Nat.testBit_and a b t
 rw [h, ha] at this
 simpa using this.symm

def SameB (b : Nat) (tm tm' : Tr Value) : Prop := ∀ t, b.testBit t = true → tm.get t = tm'.get t
theorem SameB.lor {a b : Nat} {tm tm' : Tr Value} (h : SameB (Nat.lor a b) tm tm') : SameB a tm tm' ∧ SameB b tm tm' :=
 ⟨fun t ht => h t (by rw [lor_bit, ht]; rfl), fun t ht => h t (by rw [lor_bit, ht]; simp)⟩
theorem SameB.opv {x : Operand} {tm tm' : Tr Value} (h : SameB (tB x) tm tm') : opv x tm = opv x tm' := by
 cases x with
 | tmp t =>
  show orP (tm.get t) = orP (tm'.get t)
  rw [h t (pow_self t)]
 | _ => rfl
theorem SameB.ops : ∀ {l : List Operand} {tm tm' : Tr Value}, SameB (tBs l) tm tm' → ∀ x ∈ l, Ev.opv x tm = Ev.opv x tm'
 | [], _, _, _ => fun x hx => by cases hx
 | y :: l, tm, tm', h => fun x hx => by
  have h' := SameB.lor (a := tB y) (b := tBs l) h
  rcases List.mem_cons.1 hx with rfl | hx
  ·exact h'.1.opv
  ·exact SameB.ops h'.2 x hx
theorem SameB.parts : ∀ {l : List (Nat × Operand)} {tm tm' : Tr Value}, SameB (tBp l) tm tm' → ∀ x ∈ l.map (·.2), Ev.opv x tm = Ev.opv x tm'
 | [], _, _, _ => fun x hx => by cases hx
 | y :: l, tm, tm', h => fun x hx => by
  have h' := SameB.lor (a := tB y.2) (b := tBp l) h
  rcases List.mem_cons.1 hx with rfl | hx
  ·exact h'.1.opv
  ·exact SameB.parts h'.2 x hx
theorem SameB.opt {o : Option Operand} {tm tm' : Tr Value} (h : SameB (tBo o) tm tm') : ∀ x ∈ o, Ev.opv x tm = Ev.opv x tm' := by
 cases o with
 | none => intro x hx; cases hx
 | some y => intro x hx; cases hx; exact SameB.opv h
theorem SameB.same {o : Op} (hs : ∀ cs b, o ≠ .select cs b) {tm tm' : Tr Value} (h : SameB (lookB o) tm tm') : Same o.operands.toList tm tm' := by
 intro x hx
 cases o with
 | select cs b => exact (hs cs b rfl).elim
 | build t ps => exact SameB.parts (l := ps.toList) h x (by simpa [Op.operands] using hx)
 | buildSlice t n ps => exact SameB.parts (l := ps.toList) h x (by simpa [Op.operands] using hx)
 | makeFunc f a b =>
  have h' := SameB.lor (a := tBs a.toList) (b := tBs b.toList) h
  simp only [Op.operands, Array.toList_append, List.mem_append] at hx
  rcases hx with hx | hx
  ·exact SameB.ops h'.1 x hx
  ·exact SameB.ops h'.2 x hx
 | makeMap t r =>
  cases r with
  | none => simp [Op.operands] at hx
  | some y => simp [Op.operands] at hx; subst hx; exact SameB.opv h
 | slice t y l hi m =>
  have h1 := SameB.lor (a := tB y) h
  have h2 := SameB.lor (a := tBo l) h1.2
  have h3 := SameB.lor (a := tBo hi) h2.2
  simp only [Op.operands, Array.toList_append, List.mem_append, Option.mem_toArray, Array.mem_toList_iff, List.mem_singleton, Array.mem_append, Array.mem_singleton, Option.mem_def] at hx
  rcases hx with ((hx | hx) | hx) | hx
  ·subst hx; exact h1.1.opv
  ·exact h2.1.opt x hx
  ·exact h3.1.opt x hx
  ·exact h3.2.opt x hx
 | call c =>
  have h' := SameB.lor (a := calleeB c.callee) (b := tBs c.args.toList) h
  change x ∈ c.operands.toList at hx
  unfold Call.operands at hx
  simp only [Array.toList_append, List.mem_append] at hx
  rcases hx with hx | hx
  ·have h1 := h'.1
   cases hc : c.callee with
   | value f => rw [hc] at hx h1; simp at hx; subst hx; exact SameB.opv h1
   | invoke f m => rw [hc] at hx h1; simp at hx; subst hx; exact SameB.opv h1
   | builtin b => rw [hc] at hx; simp at hx
  ·exact SameB.ops h'.2 x hx
 | go c =>
  have h' := SameB.lor (a := calleeB c.callee) (b := tBs c.args.toList) h
  change x ∈ c.operands.toList at hx
  unfold Call.operands at hx
  simp only [Array.toList_append, List.mem_append] at hx
  rcases hx with hx | hx
  ·have h1 := h'.1
   cases hc : c.callee with
   | value f => rw [hc] at hx h1; simp at hx; subst hx; exact SameB.opv h1
   | invoke f m => rw [hc] at hx h1; simp at hx; subst hx; exact SameB.opv h1
   | builtin b => rw [hc] at hx; simp at hx
  ·exact SameB.ops h'.2 x hx
 | defer c =>
  have h' := SameB.lor (a := calleeB c.callee) (b := tBs c.args.toList) h
  change x ∈ c.operands.toList at hx
  unfold Call.operands at hx
  simp only [Array.toList_append, List.mem_append] at hx
  rcases hx with hx | hx
  ·have h1 := h'.1
   cases hc : c.callee with
   | value f => rw [hc] at hx h1; simp at hx; subst hx; exact SameB.opv h1
   | invoke f m => rw [hc] at hx h1; simp at hx; subst hx; exact SameB.opv h1
   | builtin b => rw [hc] at hx; simp at hx
  ·exact SameB.ops h'.2 x hx
 | pick a b c =>
  have h1 := SameB.lor (a := tB a) h
  have h2 := SameB.lor (a := tB b) h1.2
  simp [Op.operands] at hx
  rcases hx with rfl | rfl | rfl
  ·exact h1.1.opv
  ·exact h2.1.opv
  ·exact h2.2.opv
 | mapUpdate t a b c =>
  have h1 := SameB.lor (a := tB a) h
  have h2 := SameB.lor (a := tB b) h1.2
  simp [Op.operands] at hx
  rcases hx with rfl | rfl | rfl
  ·exact h1.1.opv
  ·exact h2.1.opv
  ·exact h2.2.opv
 | entryStore t a b c =>
  have h1 := SameB.lor (a := tB a) h
  have h2 := SameB.lor (a := tB b) h1.2
  simp [Op.operands] at hx
  rcases hx with rfl | rfl | rfl
  ·exact h1.1.opv
  ·exact h2.1.opv
  ·exact h2.2.opv
 | insert t a b c =>
  have h1 := SameB.lor (a := tB a) h
  have h2 := SameB.lor (a := tB b) h1.2
  simp [Op.operands] at hx
  rcases hx with rfl | rfl | rfl
  ·exact h1.1.opv
  ·exact h2.1.opv
  ·exact h2.2.opv
 | _ =>
  simp [Op.operands] at hx <;> first
   | (subst hx; exact SameB.opv h)
   | (have h1 := SameB.lor h
      rcases hx with rfl | rfl
      ·exact h1.1.opv
      ·exact h1.2.opv)
theorem light_sameB (P : Program) (o : Op) {tm tm' : Tr Value} (h : SameB (lookB o) tm tm') (hp : Hp) (id : Nat) : (cLight P o).f tm hp id = (cLight P o).f tm' hp id := by
 by_cases hs : ∀ cs b, o ≠ .select cs b
 ·exact light_same P o (h.same hs) hp id
 ·have ⟨cs, b, e⟩ : ∃ cs b, o = .select cs b := Classical.byContradiction fun hh => hs fun cs b e => hh ⟨cs, b, e⟩
  subst e; rfl
theorem heavy_sameB (P : Program) (o : Op) {tm tm' : Tr Value} (h : SameB (lookB o) tm tm') (r : Rec) (hp : Hp) (nx : Nat) : (cHeavy P o).f r tm hp nx = (cHeavy P o).f r tm' hp nx := by
 cases o with
 | store t a x =>
  have h1 := SameB.lor (a := tB a) h
  have e1 := h1.1.opv
  have e2 := h1.2.opv
  show (cStore (sizeT P t) (cOpv a) (cOpv x)).f r tm hp nx = (cStore (sizeT P t) (cOpv a) (cOpv x)).f r tm' hp nx
  cases sizeT P t with
  | none => rfl
  | some sz =>
   show (match ptrO (opv a tm), knownV (opv x tm) with
    | some ad, true => storeP ad (cellsL (opv x tm)) sz hp nx
    | _, _ => .no "store: address" "") = (match ptrO (opv a tm'), knownV (opv x tm') with
    | some ad, true => storeP ad (cellsL (opv x tm')) sz hp nx
    | _, _ => .no "store: address" "")
   rw [e1, e2]
 | mapUpdate t m k x =>
  have h1 := SameB.lor (a := tB m) h
  have h2 := SameB.lor (a := tB k) h1.2
  show evMapSet P t (opv m tm) (opv k tm) (opv x tm) hp nx = evMapSet P t (opv m tm') (opv k tm') (opv x tm') hp nx
  rw [h1.1.opv, h2.1.opv, h2.2.opv]
 | insert t m k x =>
  have h1 := SameB.lor (a := tB m) h
  have h2 := SameB.lor (a := tB k) h1.2
  show evMapSet P t (opv m tm) (opv k tm) (opv x tm) hp nx = evMapSet P t (opv m tm') (opv k tm') (opv x tm') hp nx
  rw [h1.1.opv, h2.1.opv, h2.2.opv]
 | next x s =>
  show evNext s (opv x tm) hp nx = evNext s (opv x tm') hp nx
  rw [SameB.opv (x := x) h]
 | call c =>
  have h' := SameB.lor (a := calleeB c.callee) (b := tBs c.args.toList) h
  have ha : (cOps c.args.toList).f tm = (cOps c.args.toList).f tm' := ops_same (l := c.args.toList) (SameB.ops h'.2)
  show (cHeavyC c.callee P c.argTypes.toList (cOps c.args.toList)).f r tm hp nx = (cHeavyC c.callee P c.argTypes.toList (cOps c.args.toList)).f r tm' hp nx
  cases hc : c.callee with
  | value g =>
   have h1 := h'.1
   rw [hc] at h1
   have e := SameB.opv (x := g) h1
   cases g with
   | func gid => show r.call gid ((cOps c.args.toList).f tm) hp nx = r.call gid ((cOps c.args.toList).f tm') hp nx; rw [ha]
   | tmp t => show callV (opv (.tmp t) tm) r ((cOps c.args.toList).f tm) hp nx = callV (opv (.tmp t) tm') r ((cOps c.args.toList).f tm') hp nx; rw [ha, e]
   | const v => show callV (opv (.const v) tm) r ((cOps c.args.toList).f tm) hp nx = callV (opv (.const v) tm') r ((cOps c.args.toList).f tm') hp nx; rw [ha, e]
   | global v => show callV (opv (.global v) tm) r ((cOps c.args.toList).f tm) hp nx = callV (opv (.global v) tm') r ((cOps c.args.toList).f tm') hp nx; rw [ha, e]
  | builtin b => show heavyB b P c.argTypes.toList ((cOps c.args.toList).f tm) hp nx = heavyB b P c.argTypes.toList ((cOps c.args.toList).f tm') hp nx; rw [ha]
  | invoke x m =>
   have h1 := h'.1
   rw [hc] at h1
   have e := SameB.opv (x := x) h1
   show invokeV P m (opv x tm) r ((cOps c.args.toList).f tm) hp nx = invokeV P m (opv x tm') r ((cOps c.args.toList).f tm') hp nx
   rw [ha, e]
 | _ => rfl
theorem guard_sameB {all : List Oper} {o : Oper} {j : Nat} {want : Bool} (hg : o.guard = some (j, want)) {tm tm' : Tr Value} (h : SameB (guardB all o.guard) tm tm') :
  (cGuardD want (gdst all j)).f tm = (cGuardD want (gdst all j)).f tm' := by
 rw [hg] at h
 cases hd : gdst all j with
 | none => rfl
 | some d =>
  show isBO want (tm.get d) = isBO want (tm'.get d)
  rw [h d (by show (dB (gdst all j)).testBit d = true; rw [hd]; exact pow_self d)]

theorem statics_spec (all : List Oper) : ∀ (l : List Oper) (ms : List Nat) (i : Nat) (acc : List SE), statics all l ms i acc = true →
  ∀ j o, l[j]? = some o → ∃ m, ms[j]? = some m ∧ m < 2 ^ (i + j) ∧ (∀ e ∈ acc, pairOk m (dB o.dst) (seenB all o) e = true) ∧
   ∀ j' o', j' < j → l[j']? = some o' → pairOk m (dB o.dst) (seenB all o) { i := i + j', d := dB o'.dst, l := seenB all o' } = true
 | [], _, _, _, _ => fun j o h => by simp at h
 | o0 :: l, [], _, _, h => by cases h
 | o0 :: l, m :: ms, i, acc, h => by
  change (match staticOne m i (dB o0.dst) (seenB all o0) acc with
   | true => statics all l ms (i + 1) ({ i, d := dB o0.dst, l := seenB all o0 } :: acc)
   | false => false) = true at h
  cases h1 : staticOne m i (dB o0.dst) (seenB all o0) acc with
  | false => rw [h1] at h; cases h
  | true =>
   rw [h1] at h
   simp only at h
   have ih := statics_spec all l ms (i + 1) _ h
   have hpairs : ∀ {m d l : Nat} (acc : List SE), pairsOk m d l acc = true → ∀ e ∈ acc, pairOk m d l e = true := by
    intro m d l acc
    induction acc with
    | nil => intro _ e he; cases he
    | cons x acc ih =>
     intro hh e he
     change (match pairOk m d l x with | true => pairsOk m d l acc | false => false) = true at hh
     cases hx : pairOk m d l x with
     | false => rw [hx] at hh; cases hh
     | true =>
      rw [hx] at hh
      rcases List.mem_cons.1 he with rfl | he
      ·exact hx
      ·exact ih hh e he
   have hone : m < 2 ^ i ∧ pairsOk m (dB o0.dst) (seenB all o0) acc = true := by
    unfold staticOne at h1
    cases hb : Nat.blt m (Nat.pow 2 i) with
    | false => rw [hb] at h1; cases h1
    | true => rw [hb] at h1; exact ⟨blt_true.1 hb, h1⟩
   intro j o hj
   cases j with
   | zero =>
    simp at hj
    subst hj
    exact ⟨m, rfl, hone.1, hpairs acc hone.2, fun j' o' hlt => by omega⟩
   | succ j =>
    obtain ⟨m', h2, h3, h4, h5⟩ := ih j o (by simpa using hj)
    refine ⟨m', by simpa using h2, by rw [show i + (j + 1) = i + 1 + j by omega]; exact h3, fun e he => h4 e (List.mem_cons_of_mem _ he), fun j' o' hlt hj' => ?_⟩
    cases j' with
    | zero => simp at hj'; subst hj'; exact h4 _ (List.mem_cons_self ..)
    | succ j' =>
     have := h5 j' o' (by omega) (by simpa using hj')
     rw [show i + (j' + 1) = i + 1 + j' by omega]
     exact this
theorem maskOf_bit (acc : List Nat) : ∀ (es : List Edge) (b : Nat), (maskOf acc es).testBit b = true → ∃ e ∈ es, Region.binds .any e = true ∧ (b = e.on ∨ ∃ m, acc[e.on]? = some m ∧ m.testBit b = true)
 | [], b, h => by simp [maskOf] at h
 | e :: es, b, h => by
  unfold maskOf at h
  cases hb : Region.binds .any e with
  | false =>
   simp only [hb] at h
   obtain ⟨e', h1, h2⟩ := maskOf_bit acc es b h
   exact ⟨e', List.mem_cons_of_mem _ h1, h2⟩
  | true =>
   simp only [hb, lor_bit, Bool.or_eq_true] at h
   rcases h with (h | h) | h
   ·rw [Nat.testBit_two_pow] at h
    exact ⟨e, List.mem_cons_self .., hb, .inl (of_decide_eq_true h).symm⟩
   ·rw [nth_eq] at h
    cases hm : acc[e.on]? with
    | none => rw [hm] at h; simp at h
    | some m => rw [hm] at h; exact ⟨e, List.mem_cons_self .., hb, .inr ⟨m, hm, h⟩⟩
   ·obtain ⟨e', h1, h2⟩ := maskOf_bit acc es b h
    exact ⟨e', List.mem_cons_of_mem _ h1, h2⟩
theorem maskOf_on (acc : List Nat) : ∀ (es : List Edge) (e : Edge), e ∈ es → Region.binds .any e = true → (maskOf acc es).testBit e.on = true
 | [], e, h, _ => by cases h
 | e0 :: es, e, h, hb => by
  unfold maskOf
  rcases List.mem_cons.1 h with rfl | h
  ·rw [hb]
   simp only [lor_bit]
   rw [Nat.testBit_two_pow]
   simp
  ·have ih := maskOf_on acc es e h hb
   cases Region.binds .any e0 with
   | false => exact ih
   | true => simp only [lor_bit, ih, Bool.or_true]
theorem masksF_spec : ∀ (l : List Oper) (acc : List Nat), (masksF l acc).length = acc.length + l.length ∧ (∀ i, i < acc.length → (masksF l acc)[i]? = acc[i]?) ∧
  ∀ j o, l[j]? = some o → (masksF l acc)[acc.length + j]? = some (maskOf ((masksF l acc).take (acc.length + j)) o.after.toList)
 | [], acc => ⟨rfl, fun _ _ => rfl, fun j o h => by simp at h⟩
 | o0 :: l, acc => by
  have ih := masksF_spec l (acc ++ [maskOf acc o0.after.toList])
  have hd : masksF (o0 :: l) acc = masksF l (acc ++ [maskOf acc o0.after.toList]) := rfl
  rw [hd]
  simp only [List.length_append, List.length_singleton] at ih
  obtain ⟨h1, h2, h3⟩ := ih
  refine ⟨by rw [h1]; simp only [List.length_cons]; omega, fun i hi => ?_, fun j o hj => ?_⟩
  ·rw [h2 i (by omega), List.getElem?_append_left hi]
  ·cases j with
   | zero =>
    simp at hj
    subst hj
    rw [Nat.add_zero, h2 _ (by omega), List.getElem?_append_right (Nat.le_refl _)]
    simp only [Nat.sub_self, List.getElem?_cons_zero]
    congr 2
    apply List.ext_getElem?
    intro i
    rw [List.getElem?_take]
    by_cases hi : i < acc.length
    ·rw [if_pos hi, h2 i (by omega), List.getElem?_append_left hi]
    ·rw [if_neg hi, List.getElem?_eq_none (by omega)]
   | succ j =>
    have := h3 j o (by simpa using hj)
    rw [show acc.length + (j + 1) = acc.length + 1 + j by omega]
    exact this
end Go.Proofs.YtpnaenbpffhjfaaGreatDoor.Ev

namespace Go.Proofs.YtpnaenbpffhjfaaGreatDoor.Ev
inductive Kd where
 | skip | pure | read | heavy
 | made (ao : AO)
structure Ent where
 o : Oper
 m : Nat
 v : Value
 k : Kd
structure Cor where
 ix : Nat
 m : Nat
 h : Hp
 nx : Nat
 ps : List Pend
noncomputable def putT (d : Option Tmp) (v : Value) (tm : Tr Value) : Tr Value := match d with
 | some d => tm.set d v
 | none => tm
noncomputable def tmF (D : Nat → Bool) : Nat → List Ent → Tr Value → Tr Value
 | _, [] => fun tm => tm
 | i, e :: es => fun tm => tmF D (i + 1) es (if D i = true then putT e.o.dst e.v tm else tm)
theorem tmF_snoc (D : Nat → Bool) (e : Ent) : ∀ (es : List Ent) (i : Nat) (tm : Tr Value), tmF D i (es ++ [e]) tm = (if D (i + es.length) = true then putT e.o.dst e.v (tmF D i es tm) else tmF D i es tm)
 | [], i, tm => by simp [tmF]
 | x :: es, i, tm => by
  show tmF D (i + 1) (es ++ [e]) _ = _
  rw [tmF_snoc D e es (i + 1)]
  simp only [List.length_cons, tmF]
  rw [show i + 1 + es.length = i + (es.length + 1) by omega]
theorem putT_get (d : Option Tmp) (v : Value) (tm : Tr Value) (t : Nat) : (putT d v tm).get t = if d = some t then some v else tm.get t := by
 cases d with
 | none => simp [putT]
 | some d =>
  show (tm.set d v).get t = _
  rw [Tr.get_set]
  simp
theorem tmF_get (D D' : Nat → Bool) (t : Nat) : ∀ (es : List Ent) (i : Nat) (tm tm' : Tr Value), tm.get t = tm'.get t → (∀ j e, es[j]? = some e → e.o.dst = some t → D (i + j) = D' (i + j)) →
  (tmF D i es tm).get t = (tmF D' i es tm').get t
 | [], i, tm, tm', h, _ => h
 | e :: es, i, tm, tm', h, hd => by
  refine tmF_get D D' t es (i + 1) _ _ ?_ fun j x hj hx => by
   have := hd (j + 1) x (by simpa using hj) hx
   rw [show i + 1 + j = i + (j + 1) by omega]
   exact this
  by_cases hx : e.o.dst = some t
  ·have := hd 0 e rfl hx
   rw [Nat.add_zero] at this
   rw [this]
   by_cases hD : D' i = true
   ·rw [if_pos hD, if_pos hD, putT_get, putT_get, if_pos hx, if_pos hx]
   ·rw [if_neg hD, if_neg hD]; exact h
  ·have h1 : ∀ (b : Bool) (tm : Tr Value), (if b = true then putT e.o.dst e.v tm else tm).get t = tm.get t := by
    intro b tm
    cases b with
    | true => rw [if_pos rfl, putT_get, if_neg hx]
    | false => rw [if_neg (by simp)]
   rw [h1, h1]; exact h
theorem tmF_same (D D' : Nat → Bool) : ∀ (es : List Ent) (i : Nat) (tm : Tr Value), (∀ j, j < es.length → D (i + j) = D' (i + j)) → tmF D i es tm = tmF D' i es tm
 | [], i, tm, _ => rfl
 | e :: es, i, tm, h => by
  have h0 := h 0 (by simp)
  rw [Nat.add_zero] at h0
  show tmF D (i + 1) es _ = tmF D' (i + 1) es _
  rw [h0]
  exact tmF_same D D' es (i + 1) _ fun j hj => by
   have := h (j + 1) (by simp; omega)
   rw [show i + 1 + j = i + (j + 1) by omega]
   exact this
noncomputable def tmA (es : List Ent) (tm0 : Tr Value) (i : Nat) : Tr Value := tmF (fun j => Nat.blt j i) 0 es tm0
theorem tmA_snoc (es : List Ent) (e : Ent) (tm0 : Tr Value) {i : Nat} (hi : i ≤ es.length) : tmA (es ++ [e]) tm0 i = tmA es tm0 i := by
 unfold tmA
 rw [tmF_snoc, if_neg (by intro h; have := blt_true.1 h; omega)]
theorem tmA_last (es : List Ent) (e : Ent) (tm0 : Tr Value) : tmA (es ++ [e]) tm0 (es.length + 1) = putT e.o.dst e.v (tmA es tm0 es.length) := by
 unfold tmA
 rw [tmF_snoc, if_pos (blt_true.2 (by omega))]
 congr 1
 refine tmF_same _ _ es 0 tm0 fun j hj => ?_
 have h1 : Nat.blt (0 + j) (es.length + 1) = true := blt_true.2 (by omega)
 have h2 : Nat.blt (0 + j) es.length = true := blt_true.2 (by omega)
 simp only [h1, h2]
def coreAt (cs : List Cor) (h : Hp) (nx k : Nat) : Hp × Nat := match cs[k]? with
 | some c => (c.h, c.nx)
 | none => (h, nx)
theorem coreAt_end (cs : List Cor) (h : Hp) (nx : Nat) : coreAt cs h nx cs.length = (h, nx) := by
 unfold coreAt
 rw [List.getElem?_eq_none (Nat.le_refl _)]
theorem coreAt_snoc {cs : List Cor} {h h' : Hp} {nx nx' : Nat} {c : Cor} (h1 : c.h = h) (h2 : c.nx = nx) {k : Nat} (hk : k ≤ cs.length) : coreAt (cs ++ [c]) h' nx' k = coreAt cs h nx k := by
 unfold coreAt
 rcases Nat.lt_or_eq_of_le hk with hk | hk
 ·rw [List.getElem?_append_left hk, List.getElem?_eq_getElem hk]
 ·subst hk
  rw [List.getElem?_append_right (Nat.le_refl _), List.getElem?_eq_none (Nat.le_refl cs.length)]
  simp [h1, h2]
def Open (cs : List Cor) (i m k : Nat) : Prop := (∀ (k' : Nat) (c : Cor), k' < k → cs[k']? = some c → c.m.testBit i = false) ∧ ∀ (k' : Nat) (c : Cor), k ≤ k' → cs[k']? = some c → m.testBit c.ix = false
def Pends (base : Nat) (es : List Ent) (cs : List Cor) (k : Nat) (qs : List Pend) : Prop :=
 (∀ p ∈ qs, (∃ e, es[p.ix]? = some e ∧ e.k = .made p.ao) ∧ p.id = base + p.ix ∧ ∀ k' c, k' < k → cs[k']? = some c → c.m.testBit p.ix = false) ∧ qs.Pairwise fun p q => p.ix ≠ q.ix
theorem Pends.snoc {base : Nat} {es : List Ent} {cs : List Cor} {k : Nat} {qs : List Pend} (h : Pends base es cs k qs) (e : Ent) : Pends base (es ++ [e]) cs k qs :=
 ⟨fun p hp => let ⟨⟨x, h1, h2⟩, h3⟩ := h.1 p hp; ⟨⟨x, by rw [List.getElem?_append_left (List.getElem?_eq_some_iff.1 h1).1]; exact h1, h2⟩, h3⟩, h.2⟩
theorem Pends.core {base : Nat} {es : List Ent} {cs : List Cor} {k : Nat} {qs : List Pend} (h : Pends base es cs k qs) (hk : k ≤ cs.length) (c : Cor) : Pends base es (cs ++ [c]) k qs :=
 ⟨fun p hp => let ⟨h1, h2, h3⟩ := h.1 p hp; ⟨h1, h2, fun k' c' hk' hc => h3 k' c' hk' (by rw [List.getElem?_append_left (by omega)] at hc; exact hc)⟩, h.2⟩
section
variable (P : Program) (nt base : Nat) (all : List Oper) (r : Rec) (tm0 : Tr Value)
def WantsB (o : Oper) (tm : Tr Value) (b : Bool) : Prop := match o.guard with
 | none => b = true
 | some (j, want) => (cGuardD want (gdst all j)).f tm = some b
def ReadAt (es : List Ent) (cs : List Cor) (h : Hp) (nx : Nat) (i : Nat) (e : Ent) (tm : Tr Value) (k : Nat) : Prop :=
 ∃ qs h' ps', Pends base es cs k qs ∧ joinP e.m qs (coreAt cs h nx k).1 = .ok h' ps' ∧ (cLight P e.o.op).f tm h' (base + i) = .val e.v
def HeavyAt (es : List Ent) (cs : List Cor) (h : Hp) (nx : Nat) (i : Nat) (e : Ent) (tm : Tr Value) (k : Nat) : Prop :=
 (∃ c : Cor, cs[k]? = some c ∧ c.ix = i ∧ c.m = e.m) ∧ (∀ (k' : Nat) (c : Cor), k = k' + 1 → cs[k']? = some c → e.m.testBit c.ix = true) ∧
  ∃ qs h1 ps', Pends base es cs k qs ∧ joinP e.m qs (coreAt cs h nx k).1 = .ok h1 ps' ∧ (cHeavy P e.o.op).f r tm h1 (coreAt cs h nx k).2 = .ok e.v (coreAt cs h nx (k + 1)).1 (coreAt cs h nx (k + 1)).2
def EntOK (es : List Ent) (cs : List Cor) (h : Hp) (nx : Nat) (i : Nat) (e : Ent) (tm : Tr Value) : Prop :=
 (∃ p, cPut nt e.o.dst = some p) ∧ match e.k with
  | .skip => e.v = undef ∧ WantsB all e.o tm false
  | .pure => WantsB all e.o tm true ∧ heavy e.o.op = false ∧ (cLight P e.o.op).f tm .leaf (base + i) = .val e.v
  | .made ao => WantsB all e.o tm true ∧ heavy e.o.op = false ∧ isSlice e.o.op = false ∧ (cLight P e.o.op).f tm .leaf (base + i) = .mk e.v ao
  | .read => WantsB all e.o tm true ∧ heavy e.o.op = false ∧ ∀ k, k ≤ cs.length → Open cs i e.m k → ReadAt P base es cs h nx i e tm k
  | .heavy => WantsB all e.o tm true ∧ heavy e.o.op = true ∧ ∃ k, k < cs.length ∧ HeavyAt P base r es cs h nx i e tm k
structure TraceOK (ms : List Nat) (es : List Ent) (cs : List Cor) (tm : Tr Value) (h : Hp) (nx : Nat) (d : Dr) : Prop where
 tm : tm = tmA es tm0 es.length
 ops : ∀ (j : Nat) (e : Ent), es[j]? = some e → all[j]? = some e.o ∧ ms[j]? = some e.m
 ents : ∀ (j : Nat) (e : Ent), es[j]? = some e → EntOK P nt base all r es cs h nx j e (tmA es tm0 j)
 hv : d.hv = (cs.map (·.ix)).reverse
 snaps : d.snaps = (cs.map fun c => { h := c.h, ps := c.ps : Snap }).reverse
 cores : ∀ (k : Nat) (c : Cor), cs[k]? = some c → c.ix < es.length ∧ c.m < 2 ^ c.ix ∧ Pends base es cs k c.ps
 hvk : ∀ (k : Nat) (c : Cor), cs[k]? = some c → ∃ e, es[c.ix]? = some e ∧ e.k = .heavy ∧ c.m = e.m
 inc : cs.Pairwise fun c c' => c.ix < c'.ix
 pend : Pends base es cs cs.length d.ps
 lates : ∀ (j : Nat) (e : Ent), es[j]? = some e → e.k = .read → (∃ (k : Nat) (c : Cor), cs[k]? = some c ∧ c.m.testBit j = true) ∨
  ∃ x ∈ d.lt, x.ix = j ∧ x.mask = e.m ∧ x.o = cLight P e.o.op ∧ x.v = e.v ∧ x.tm = tmA es tm0 j
variable {P nt base all r tm0}
theorem EntOK.snoc {es : List Ent} {cs : List Cor} {h : Hp} {nx i : Nat} {e : Ent} {tm : Tr Value} (hk : EntOK P nt base all r es cs h nx i e tm) (x : Ent) : EntOK P nt base all r (es ++ [x]) cs h nx i e tm := by
 refine ⟨hk.1, ?_⟩
 have h2 := hk.2
 cases hkk : e.k with
 | skip => rw [hkk] at h2; exact h2
 | pure => rw [hkk] at h2; exact h2
 | made ao => rw [hkk] at h2; exact h2
 | read =>
  rw [hkk] at h2
  obtain ⟨a, b, c⟩ := h2
  exact ⟨a, b, fun k k1 k2 => let ⟨qs, h', ps', a1, a2, a3⟩ := c k k1 k2; ⟨qs, h', ps', a1.snoc x, a2, a3⟩⟩
 | heavy =>
  rw [hkk] at h2
  obtain ⟨a, b, k, k1, k2, k3, qs, h1, ps', a1, a2, a3⟩ := h2
  exact ⟨a, b, k, k1, k2, k3, qs, h1, ps', a1.snoc x, a2, a3⟩
theorem EntOK.core {es : List Ent} {cs : List Cor} {h : Hp} {nx i : Nat} {e : Ent} {tm : Tr Value} (hk : EntOK P nt base all r es cs h nx i e tm) {c : Cor} (h1 : c.h = h) (h2 : c.nx = nx) {h' : Hp} {nx' : Nat}
  (hr : e.k = .read → Open (cs ++ [c]) i e.m (cs.length + 1) → ReadAt P base es (cs ++ [c]) h' nx' i e tm (cs.length + 1)) : EntOK P nt base all r es (cs ++ [c]) h' nx' i e tm := by
 refine ⟨hk.1, ?_⟩
 have h3 := hk.2
 have hcs : ∀ {k : Nat} {x : Cor}, cs[k]? = some x → (cs ++ [c])[k]? = some x := fun hx => by rw [List.getElem?_append_left (List.getElem?_eq_some_iff.1 hx).1]; exact hx
 cases hkk : e.k with
 | skip => rw [hkk] at h3; exact h3
 | pure => rw [hkk] at h3; exact h3
 | made ao => rw [hkk] at h3; exact h3
 | read =>
  rw [hkk] at h3
  obtain ⟨a, b, d⟩ := h3
  refine ⟨a, b, fun k k1 k2 => ?_⟩
  rw [List.length_append, List.length_singleton] at k1
  rcases Nat.lt_or_ge cs.length k with k3 | k3
  ·have : k = cs.length + 1 := by omega
   subst this
   exact hr hkk k2
  ·obtain ⟨qs, hj, ps', a1, a2, a3⟩ := d k k3 ⟨fun k' x hk' hx => k2.1 k' x hk' (hcs hx), fun k' x hk' hx => k2.2 k' x hk' (hcs hx)⟩
   exact ⟨qs, hj, ps', a1.core k3 c, by rw [coreAt_snoc h1 h2 k3]; exact a2, a3⟩
 | heavy =>
  rw [hkk] at h3
  obtain ⟨a, b, k, k1, ⟨x, k2, k2', k2''⟩, k3, qs, hj, ps', a1, a2, a3⟩ := h3
  refine ⟨a, b, k, by rw [List.length_append]; omega, ⟨x, hcs k2, k2', k2''⟩, fun k' y hk' hy => k3 k' y hk' (by rw [List.getElem?_append_left (by omega)] at hy; exact hy), qs, hj, ps', a1.core (by omega) c, ?_, ?_⟩
  ·rw [coreAt_snoc h1 h2 (by omega)]; exact a2
  ·rw [coreAt_snoc h1 h2 (by omega), coreAt_snoc h1 h2 (by omega)]; exact a3
end
end Go.Proofs.YtpnaenbpffhjfaaGreatDoor.Ev

namespace Go.Proofs.YtpnaenbpffhjfaaGreatDoor.Ev
section
variable {P : Program} {nt base : Nat} {all : List Oper} {r : Rec} {tm0 : Tr Value} {ms : List Nat}
theorem get_snoc {α : Type} {l : List α} {x : α} {j : Nat} {y : α} (h : (l ++ [x])[j]? = some y) : l[j]? = some y ∨ (j = l.length ∧ y = x) := by
 rcases Nat.lt_or_ge j l.length with hj | hj
 ·rw [List.getElem?_append_left hj] at h; exact .inl h
 ·rw [List.getElem?_append_right hj] at h
  cases hk : j - l.length with
  | zero => rw [hk] at h; simp at h; exact .inr ⟨by omega, h.symm⟩
  | succ k => rw [hk] at h; simp at h
theorem TraceOK.light {es : List Ent} {cs : List Cor} {tm : Tr Value} {h : Hp} {nx : Nat} {d : Dr} (T : TraceOK P nt base all r tm0 ms es cs tm h nx d) {e : Ent} (ho : all[es.length]? = some e.o) (hm : ms[es.length]? = some e.m)
  (hE : EntOK P nt base all r es cs h nx es.length e tm) {d' : Dr} (h1 : d'.hv = d.hv) (h2 : d'.snaps = d.snaps) (h3 : Pends base (es ++ [e]) cs cs.length d'.ps) (h4 : ∀ x ∈ d.lt, x ∈ d'.lt)
  (h5 : e.k = .read → ∃ x ∈ d'.lt, x.ix = es.length ∧ x.mask = e.m ∧ x.o = cLight P e.o.op ∧ x.v = e.v ∧ x.tm = tm) : TraceOK P nt base all r tm0 ms (es ++ [e]) cs (putT e.o.dst e.v tm) h nx d' := by
 have htm := T.tm
 refine ⟨?_, ?_, ?_, by rw [h1]; exact T.hv, by rw [h2]; exact T.snaps, ?_, fun k c hc => let ⟨y, y1, y2, y3⟩ := T.hvk k c hc; ⟨y, by rw [List.getElem?_append_left (List.getElem?_eq_some_iff.1 y1).1]; exact y1, y2, y3⟩, T.inc, h3, ?_⟩
 ·rw [List.length_append, List.length_singleton, tmA_last, htm]
 ·intro j x hx
  rcases get_snoc hx with hx | ⟨rfl, rfl⟩
  ·exact T.ops j x hx
  ·exact ⟨ho, hm⟩
 ·intro j x hx
  rcases get_snoc hx with hx | ⟨rfl, rfl⟩
  ·have := T.ents j x hx
   rw [tmA_snoc _ _ _ (Nat.le_of_lt (List.getElem?_eq_some_iff.1 hx).1)]
   exact this.snoc _
  ·rw [tmA_snoc _ _ _ (Nat.le_refl _), ← htm]
   exact hE.snoc _
 ·intro k c hc
  obtain ⟨a, a', b⟩ := T.cores k c hc
  exact ⟨by rw [List.length_append]; omega, a', b.snoc _⟩
 ·intro j x hx hr
  rcases get_snoc hx with hx | ⟨rfl, rfl⟩
  ·rw [tmA_snoc _ _ _ (Nat.le_of_lt (List.getElem?_eq_some_iff.1 hx).1)]
   exact (T.lates j x hx hr).imp id fun ⟨y, hy, hh⟩ => ⟨y, h4 y hy, hh⟩
  ·rw [tmA_snoc _ _ _ (Nat.le_refl _), ← htm]
   exact .inr (h5 hr)
theorem lates_some {base mask : Nat} {h : Hp} {ps : List Pend} : ∀ {l l' : List Late}, lates base mask h ps l = some l' → ∀ x ∈ l, mask.testBit x.ix = true ∨ (x ∈ l' ∧ sameJ (joinP x.mask ps h) x.o x.tm (base + x.ix) x.v = true)
 | [], _, _ => fun x hx => by cases hx
 | y :: l, l', e => fun x hx => by
  unfold lates at e
  cases hb : mask.testBit y.ix with
  | true =>
   rw [hb] at e
   rcases List.mem_cons.1 hx with rfl | hx
   ·exact .inl hb
   ·exact lates_some e x hx
  | false =>
   rw [hb] at e
   simp only at e
   cases hj : sameJ (joinP y.mask ps h) y.o y.tm (base + y.ix) y.v with
   | false => rw [hj] at e; cases e
   | true =>
    rw [hj] at e
    simp only at e
    cases hl : lates base mask h ps l with
    | none => rw [hl] at e; cases e
    | some l2 =>
     rw [hl] at e
     cases e
     rcases List.mem_cons.1 hx with rfl | hx
     ·exact .inr ⟨List.mem_cons_self .., hj⟩
     ·exact (lates_some hl x hx).imp id fun ⟨a, b⟩ => ⟨List.mem_cons_of_mem _ a, b⟩
theorem joinP_ps {mask : Nat} : ∀ {ps : List Pend} {h h' : Hp} {ps' : List Pend}, joinP mask ps h = .ok h' ps' → ps' = ps.filter fun p => !(mask.testBit p.ix)
 | [], h, h', ps', e => by cases e; rfl
 | p :: ps, h, h', ps', e => by
  change joinC mask p (joinP mask ps h) = .ok h' ps' at e
  cases hj : joinP mask ps h with
  | no => rw [hj] at e; cases e
  | ok h1 ps1 =>
   rw [hj] at e
   change joinT (mask.testBit p.ix) p h1 ps1 = .ok h' ps' at e
   rw [List.filter_cons, ← joinP_ps hj]
   cases hb : mask.testBit p.ix with
   | false => rw [hb] at e; cases e; rfl
   | true =>
    rw [hb] at e
    change (match aliased p.ao h1 p.id with | .ok h' => JP.ok h' ps1 | .no => JP.no) = .ok h' ps' at e
    cases ha : aliased p.ao h1 p.id with
    | no => rw [ha] at e; cases e
    | ok h2 => rw [ha] at e; cases e; rfl
theorem TraceOK.heavy {es : List Ent} {cs : List Cor} {tm : Tr Value} {h : Hp} {nx : Nat} {d : Dr} (T : TraceOK P nt base all r tm0 ms es cs tm h nx d) {e : Ent} (ho : all[es.length]? = some e.o) (hm : ms[es.length]? = some e.m) (hmb : e.m < 2 ^ es.length)
  (hk : e.k = .heavy) (hp : ∃ p, cPut nt e.o.dst = some p) (hw : WantsB all e.o tm true) (hh : heavy e.o.op = true) {h1 : Hp} {ps' : List Pend} (hj : joinP e.m d.ps h = .ok h1 ps') (hch : chained e.m d.hv = true)
  {h' : Hp} {nx' : Nat} (hr : (cHeavy P e.o.op).f r tm h1 nx = .ok e.v h' nx') {lt' : List Late} (hl : Ev.lates base e.m h' ps' d.lt = some lt') :
  TraceOK P nt base all r tm0 ms (es ++ [e]) (cs ++ [{ ix := es.length, m := e.m, h, nx, ps := d.ps }]) (putT e.o.dst e.v tm) h' nx' { ps := ps', snaps := { h, ps := d.ps } :: d.snaps, hv := es.length :: d.hv, lt := lt' } := by
 have htm := T.tm
 generalize hc : ({ ix := es.length, m := e.m, h, nx, ps := d.ps } : Cor) = c
 have c1 : c.h = h := by rw [← hc]
 have c2 : c.nx = nx := by rw [← hc]
 have c3 : c.ix = es.length := by rw [← hc]
 have c4 : c.m = e.m := by rw [← hc]
 have c5 : c.ps = d.ps := by rw [← hc]
 have hlen : (cs ++ [c]).length = cs.length + 1 := by simp
 have hcs : ∀ {k : Nat} {x : Cor}, cs[k]? = some x → (cs ++ [c])[k]? = some x := fun hx => by rw [List.getElem?_append_left (List.getElem?_eq_some_iff.1 hx).1]; exact hx
 have hps' := joinP_ps hj
 have hpend : Pends base es (cs ++ [c]) (cs.length + 1) ps' := by
  refine ⟨fun p hp => ?_, by rw [hps']; exact T.pend.2.filter _⟩
  rw [hps', List.mem_filter] at hp
  obtain ⟨a, b, f⟩ := T.pend.1 p hp.1
  refine ⟨a, b, fun k' x hk' hx => ?_⟩
  rcases get_snoc hx with hx | ⟨_, rfl⟩
  ·exact f k' x (List.getElem?_eq_some_iff.1 hx).1 hx
  ·rw [c4]; simpa using hp.2
 have hE : EntOK P nt base all r es (cs ++ [c]) h' nx' es.length e tm := by
  refine ⟨hp, ?_⟩
  rw [hk]
  refine ⟨hw, hh, cs.length, by omega, ⟨c, by simp, c3, c4⟩, fun k' x hk' hx => ?_, d.ps, h1, ps', T.pend.core (Nat.le_refl _) c, ?_, ?_⟩
  ·have hx' : cs[k']? = some x := by rw [List.getElem?_append_left (by omega)] at hx; exact hx
   have hhv := T.hv
   have hhd : d.hv[0]? = some x.ix := by
    rw [hhv, List.getElem?_reverse (by simp; omega), List.getElem?_map, List.length_map, show cs.length - 1 - 0 = k' by omega, hx']; rfl
   cases hdv : d.hv with
   | nil => rw [hdv] at hhd; simp at hhd
   | cons y ys => rw [hdv] at hhd hch; simp at hhd; subst hhd; exact hch
  ·rw [coreAt_snoc c1 c2 (Nat.le_refl _), coreAt_end]; exact hj
  ·rw [coreAt_snoc c1 c2 (Nat.le_refl _), coreAt_end, ← hlen, coreAt_end]; exact hr
 refine ⟨?_, ?_, ?_, ?_, ?_, ?_, ?_, ?_, ?_, ?_⟩
 ·rw [List.length_append, List.length_singleton, tmA_last, htm]
 ·intro j x hx
  rcases get_snoc hx with hx | ⟨rfl, rfl⟩
  ·exact T.ops j x hx
  ·exact ⟨ho, hm⟩
 ·intro j x hx
  rcases get_snoc hx with hx | ⟨rfl, rfl⟩
  ·rw [tmA_snoc _ _ _ (Nat.le_of_lt (List.getElem?_eq_some_iff.1 hx).1)]
   refine ((T.ents j x hx).core c1 c2 fun hrd hop => ?_).snoc _
   rcases T.lates j x hx hrd with ⟨k, y, hy, hb⟩ | ⟨y, hy, y1, y2, y3, y4, y5⟩
   ·have := hop.1 k y (by have := (List.getElem?_eq_some_iff.1 hy).1; omega) (hcs hy)
    rw [this] at hb; cases hb
   ·have hmb' := hop.1 cs.length c (by omega) (by simp)
    rcases lates_some hl y hy with hb | ⟨_, hs⟩
    ·rw [y1, ← c4, hmb'] at hb; cases hb
    ·unfold sameJ at hs
     cases hjj : joinP y.mask ps' h' with
     | no => rw [hjj] at hs; cases hs
     | ok h2 qs2 =>
      rw [hjj] at hs
      change sameL (y.o.f y.tm h2 (base + y.ix)) y.v = true at hs
      unfold sameL at hs
      cases hu : y.o.f y.tm h2 (base + y.ix) with
      | val u =>
       rw [hu] at hs
       rw [y1, y3, y5] at hu
       rw [y4] at hs
       rw [y2] at hjj
       exact ⟨ps', h2, qs2, hpend, by rw [← hlen, coreAt_end]; exact hjj, by rw [hu, sameV_eq _ _ hs]⟩
      | no => rw [hu] at hs; cases hs
      | mk a b => rw [hu] at hs; cases hs
  ·rw [tmA_snoc _ _ _ (Nat.le_refl _), ← htm]
   exact hE.snoc _
 ·show es.length :: d.hv = _
  rw [T.hv, List.map_append, List.reverse_append]
  simp [c3]
 ·show _ :: d.snaps = _
  rw [T.snaps, List.map_append, List.reverse_append]
  simp [c1, c5]
 ·intro k x hx
  rcases get_snoc hx with hx | ⟨rfl, rfl⟩
  ·obtain ⟨a, a', b⟩ := T.cores k x hx
   exact ⟨by rw [List.length_append]; omega, a', (b.core (Nat.le_of_lt (List.getElem?_eq_some_iff.1 hx).1) c).snoc _⟩
  ·rw [c5, c3, c4]
   exact ⟨by rw [List.length_append]; simp, hmb, (T.pend.core (Nat.le_refl _) _).snoc _⟩
 ·intro k x hx
  rcases get_snoc hx with hx | ⟨rfl, rfl⟩
  ·obtain ⟨y, y1, y2, y3⟩ := T.hvk k x hx
   exact ⟨y, by rw [List.getElem?_append_left (List.getElem?_eq_some_iff.1 y1).1]; exact y1, y2, y3⟩
  ·exact ⟨e, by rw [c3]; simp, hk, c4⟩
 ·rw [List.pairwise_append]
  refine ⟨T.inc, by simp, fun a ha b hb => ?_⟩
  simp at hb; subst hb
  obtain ⟨k, hk⟩ := List.mem_iff_getElem?.1 ha
  rw [c3]
  exact (T.cores k a hk).1
 ·rw [hlen]; exact hpend.snoc _
 ·intro j x hx hrd
  rcases get_snoc hx with hx | ⟨rfl, rfl⟩
  ·rw [tmA_snoc _ _ _ (Nat.le_of_lt (List.getElem?_eq_some_iff.1 hx).1)]
   rcases T.lates j x hx hrd with ⟨k, y, hy, hb⟩ | ⟨y, hy, y1, y2, y3, y4, y5⟩
   ·exact .inl ⟨k, y, hcs hy, hb⟩
   ·rcases lates_some hl y hy with hb | ⟨hm', _⟩
    ·exact .inl ⟨cs.length, c, by simp, by rw [c4, ← y1]; exact hb⟩
    ·exact .inr ⟨y, hm', y1, y2, y3, y4, y5⟩
  ·rw [hk] at hrd; cases hrd
theorem window_mem {mask : Nat} : ∀ (cs : List Cor) (k : Nat) (c : Cor), cs[k]? = some c → (∀ k' c', k ≤ k' → cs[k']? = some c' → mask.testBit c'.ix = false) →
  { h := c.h, ps := c.ps : Snap } ∈ window mask (cs.map (·.ix)).reverse (cs.map fun c => { h := c.h, ps := c.ps : Snap }).reverse := by
 intro cs
 generalize hr : cs.reverse = rs
 induction rs generalizing cs with
 | nil => intro k c hc _; rw [List.reverse_eq_nil_iff] at hr; subst hr; simp at hc
 | cons x rs ih =>
  intro k c hc hall
  have hcs : cs = rs.reverse ++ [x] := by rw [← List.reverse_reverse cs, hr]; simp
  subst hcs
  simp only [List.map_append, List.map_cons, List.map_nil, List.reverse_append, List.reverse_cons, List.reverse_nil, List.nil_append, List.singleton_append, List.cons_append]
  unfold window
  have hx : mask.testBit x.ix = false := hall rs.reverse.length x (by have := (List.getElem?_eq_some_iff.1 hc).1; simp at this; simp; omega) (by simp)
  simp only [hx]
  rcases get_snoc hc with hc | ⟨_, rfl⟩
  ·refine List.mem_cons_of_mem _ ?_
   refine ih rs.reverse (by simp) k c hc fun k' c' hk' hc' => hall k' c' hk' ?_
   rw [List.getElem?_append_left (List.getElem?_eq_some_iff.1 hc').1]; exact hc'
  ·exact List.mem_cons_self ..
theorem again_mem {o : KL} {tm : Tr Value} {mask id : Nat} {v : Value} : ∀ {l : List Snap}, again o tm mask id v l = true → ∀ s ∈ l, sameJ (joinP mask s.ps s.h) o tm id v = true
 | [], _ => fun s hs => by cases hs
 | x :: l, h => fun s hs => by
  unfold again at h
  cases hx : sameJ (joinP mask x.ps x.h) o tm id v with
  | false => rw [hx] at h; cases h
  | true =>
   rw [hx] at h
   rcases List.mem_cons.1 hs with rfl | hs
   ·exact hx
   ·exact again_mem h s hs
end
end Go.Proofs.YtpnaenbpffhjfaaGreatDoor.Ev

namespace Go.Proofs.YtpnaenbpffhjfaaGreatDoor.Ev
section
variable {P : Program} {nt base : Nat} {all : List Oper} {r : Rec} {tm0 : Tr Value} {ms : List Nat}
theorem put_f {dst : Option Tmp} {p : KP} (hp : cPut nt dst = some p) (tm : Tr Value) (v : Value) : p.f tm v = putT dst v tm := by
 cases dst with
 | none => cases hp; rfl
 | some d =>
  unfold cPut at hp
  cases hb : Nat.blt d nt with
  | false => simp only [hb] at hp; cases hp
  | true => simp only [hb] at hp; cases hp; rfl
theorem sameJ_some {rj : JP} {o : KL} {tm : Tr Value} {id : Nat} {v : Value} (h : sameJ rj o tm id v = true) : ∃ hp ps u, rj = .ok hp ps ∧ o.f tm hp id = .val u ∧ sameV u v = true := by
 unfold sameJ at h
 cases rj with
 | no => cases h
 | ok hp ps =>
  change sameL (o.f tm hp id) v = true at h
  unfold sameL at h
  cases hu : o.f tm hp id with
  | val u => rw [hu] at h; exact ⟨hp, ps, u, rfl, hu, h⟩
  | no => rw [hu] at h; cases h
  | mk a b => rw [hu] at h; cases h
theorem oper_trace {es : List Ent} {cs : List Cor} {tm : Tr Value} {h : Hp} {nx : Nat} {d : Dr} (T : TraceOK P nt base all r tm0 ms es cs tm h nx d) {o : Oper} {m : Nat} (ho : all[es.length]? = some o) (hm : ms[es.length]? = some m) (hmb : m < 2 ^ es.length)
  {p : KP} (hp : cPut nt o.dst = some p) (hw : WantsB all o tm true) {k : KD} {S : Sx} {df : List DfE} {e : Ex} {tm' : Tr Value} {df' : List DfE} {h' : Hp} {nx' : Nat}
  (hr : (dOper P (heavy o.op) { o := o.op, i := es.length, m, place := (plc o) } p k).f base r S tm df h nx d = .ok e tm' df' h' nx') :
  ∃ x cs' h1 nx1 d1, coreAt cs' h1 nx1 0 = coreAt cs h nx 0 ∧ TraceOK P nt base all r tm0 ms (es ++ [x]) cs' (p.f tm x.v) h1 nx1 d1 ∧ k.f base r S (p.f tm x.v) df h1 nx1 d1 = .ok e tm' df' h' nx' := by
 cases hh : heavy o.op with
 | true =>
  rw [hh] at hr
  change drOn (drHv P { o := o.op, i := es.length, m, place := (plc o) } r base tm h nx d (joinP m d.ps h)) p k base r S tm df = _ at hr
  cases hj : joinP m d.ps h with
  | no => rw [hj] at hr; cases hr
  | ok h1 ps' =>
   rw [hj] at hr
   change drOn (match chained m d.hv with
    | true => drHeavy { o := o.op, i := es.length, m, place := (plc o) } base h ps' d ((cHeavy P o.op).f r tm h1 nx)
    | false => DO.no "two heavy" (plc o)) p k base r S tm df = _ at hr
   cases hch : chained m d.hv with
   | false => rw [hch] at hr; cases hr
   | true =>
    rw [hch] at hr
    simp only at hr
    cases hev : (cHeavy P o.op).f r tm h1 nx with
    | no _ _ => rw [hev] at hr; cases hr
    | ok v h2 nx2 =>
     rw [hev] at hr
     change drOn (drLates { o := o.op, i := es.length, m, place := (plc o) } v h2 h nx2 ps' d (lates base m h2 ps' d.lt)) p k base r S tm df = _ at hr
     cases hl : lates base m h2 ps' d.lt with
     | none => rw [hl] at hr; cases hr
     | some lt' =>
      rw [hl] at hr
      refine ⟨{ o, m, v, k := .heavy }, cs ++ [{ ix := es.length, m, h, nx, ps := d.ps }], h2, nx2, _, coreAt_snoc rfl rfl (Nat.zero_le _), ?_, hr⟩
      rw [put_f hp]
      exact T.heavy (e := { o, m, v, k := .heavy }) ho hm hmb rfl ⟨p, hp⟩ hw hh hj hch hev hl
 | false =>
  rw [hh] at hr
  change drOn (drLight P { o := o.op, i := es.length, m, place := (plc o) } base tm h nx d ((cLight P o.op).f tm .leaf (base + es.length))) p k base r S tm df = _ at hr
  cases hv : (cLight P o.op).f tm .leaf (base + es.length) with
  | val v =>
   rw [hv] at hr
   refine ⟨{ o, m, v, k := .pure }, cs, h, nx, d, rfl, ?_, hr⟩
   rw [put_f hp]
   exact T.light (e := { o, m, v, k := .pure }) ho hm ⟨⟨p, hp⟩, hw, hh, hv⟩ rfl rfl (T.pend.snoc _) (fun x hx => hx) (fun hx => by cases hx)
  | mk v ao =>
   rw [hv] at hr
   change drOn (match isSlice o.op with
    | true => DO.no "slice, drawn" (plc o)
    | false => .ok v h nx { d with ps := { ix := es.length, id := base + es.length, ao } :: d.ps }) p k base r S tm df = _ at hr
   cases hs : isSlice o.op with
   | true => rw [hs] at hr; cases hr
   | false =>
    rw [hs] at hr
    refine ⟨{ o, m, v, k := .made ao }, cs, h, nx, { d with ps := { ix := es.length, id := base + es.length, ao } :: d.ps }, rfl, ?_, hr⟩
    rw [put_f hp]
    refine T.light (e := { o, m, v, k := .made ao }) ho hm ⟨⟨p, hp⟩, hw, hh, hs, hv⟩ rfl rfl ?_ (fun x hx => hx) (fun hx => by cases hx)
    have hpe := T.pend.snoc { o, m, v, k := .made ao }
    refine ⟨fun q hq => ?_, ?_⟩
    ·rcases List.mem_cons.1 hq with rfl | hq
     ·refine ⟨⟨{ o, m, v, k := .made ao }, by simp, rfl⟩, rfl, fun k' c hk' hc => ?_⟩
      obtain ⟨h1, h2, _⟩ := T.cores k' c hc
      exact Nat.testBit_lt_two_pow (Nat.lt_of_lt_of_le h2 (Nat.pow_le_pow_right (by decide) (Nat.le_of_lt h1)))
     ·exact hpe.1 q hq
    ·refine List.pairwise_cons.2 ⟨fun q hq => ?_, hpe.2⟩
     obtain ⟨⟨y, hy, _⟩, _⟩ := T.pend.1 q hq
     have := (List.getElem?_eq_some_iff.1 hy).1
     show es.length ≠ q.ix
     omega
  | no =>
   rw [hv] at hr
   change drOn (drRead P { o := o.op, i := es.length, m, place := (plc o) } base tm h nx d (joinP m d.ps h)) p k base r S tm df = _ at hr
   cases hj : joinP m d.ps h with
   | no => rw [hj] at hr; cases hr
   | ok h1 ps' =>
    rw [hj] at hr
    change drOn (drOpen P { o := o.op, i := es.length, m, place := (plc o) } base tm h nx d ((cLight P o.op).f tm h1 (base + es.length))) p k base r S tm df = _ at hr
    cases hu : (cLight P o.op).f tm h1 (base + es.length) with
    | no => rw [hu] at hr; cases hr
    | mk _ _ => rw [hu] at hr; cases hr
    | val v =>
     rw [hu] at hr
     change drOn (match again (cLight P o.op) tm m (base + es.length) v (window m d.hv d.snaps) with
      | true => .ok v h nx { d with lt := { ix := es.length, mask := m, o := cLight P o.op, v, tm } :: d.lt }
      | false => DO.no "again" (plc o)) p k base r S tm df = _ at hr
     cases hag : again (cLight P o.op) tm m (base + es.length) v (window m d.hv d.snaps) with
     | false => rw [hag] at hr; cases hr
     | true =>
      rw [hag] at hr
      refine ⟨{ o, m, v, k := .read }, cs, h, nx, { d with lt := { ix := es.length, mask := m, o := cLight P o.op, v, tm } :: d.lt }, rfl, ?_, hr⟩
      rw [put_f hp]
      refine T.light (e := { o, m, v, k := .read }) ho hm ⟨⟨p, hp⟩, hw, hh, fun k hk hop => ?_⟩ rfl rfl (T.pend.snoc _) (fun x hx => List.mem_cons_of_mem _ hx) (fun _ => ⟨_, List.mem_cons_self .., rfl, rfl, rfl, rfl, rfl⟩)
      rcases Nat.lt_or_eq_of_le hk with hk | hk
      ·have hc : cs[k]? = some cs[k] := List.getElem?_eq_getElem hk
       have hw := window_mem (mask := m) cs k cs[k] hc hop.2
       rw [← T.hv, ← T.snaps] at hw
       obtain ⟨h2, ps2, u, e1, e2, e3⟩ := sameJ_some (again_mem hag _ hw)
       refine ⟨cs[k].ps, h2, ps2, (T.cores k _ hc).2.2, ?_, by rw [e2, sameV_eq _ _ e3]⟩
       unfold coreAt
       rw [hc]
       exact e1
      ·subst hk
       exact ⟨d.ps, h1, ps', T.pend, by rw [coreAt_end]; exact hj, hu⟩
theorem draw_trace (hmb : ∀ (j m : Nat), j < all.length → ms[j]? = some m → m < 2 ^ j) (hml : ∀ j : Nat, j < all.length → ∃ m, ms[j]? = some m) : ∀ (l : List Oper) (i : Nat), all.drop i = l → i ≤ all.length → ∀ (es : List Ent) (cs : List Cor) (tm : Tr Value) (h : Hp) (nx : Nat) (d : Dr) (S : Sx) (df : List DfE), es.length = i →
  TraceOK P nt base all r tm0 ms es cs tm h nx d → ∀ (e : Ex) (tm' : Tr Value) (df' : List DfE) (h' : Hp) (nx' : Nat), (cDraw P nt all l (ms.drop i) i).f base r S tm df h nx d = .ok e tm' df' h' nx' →
  ∃ es' cs' h2 d2 ps', es'.length = all.length ∧ TraceOK P nt base all r tm0 ms es' cs' tm' h2 nx' d2 ∧ e = .normal ∧ df' = df ∧ joinP (2 ^ all.length - 1) d2.ps h2 = .ok h' ps' ∧ coreAt cs' h2 nx' 0 = coreAt cs h nx 0 := by
 intro l
 induction l with
 | nil =>
  intro i hi hle es cs tm h nx d S df hlen T e tm' df' h' nx' hr
  have hia : i = all.length := by
   have := congrArg List.length hi
   simp at this
   omega
  change drEnd tm df nx (joinP (2 ^ all.length - 1) d.ps h) = _ at hr
  cases hj : joinP (2 ^ all.length - 1) d.ps h with
  | no => rw [hj] at hr; cases hr
  | ok h1 ps' =>
   rw [hj] at hr
   cases hr
   exact ⟨es, cs, h, d, ps', by omega, T, rfl, rfl, hj, rfl⟩
 | cons o l ih =>
  intro i hi hle es cs tm h nx d S df hlen T e tm' df' h' nx' hr
  have hlt : i < all.length := by
   rcases Nat.lt_or_ge i all.length with h1 | h1
   ·exact h1
   ·rw [List.drop_eq_nil_of_le h1] at hi; cases hi
  have ho : all[i]? = some o := by
   have : (all.drop i)[0]? = some o := by rw [hi]; rfl
   rw [List.getElem?_drop] at this
   simpa using this
  have hd : all.drop (i + 1) = l := by rw [← List.drop_drop, hi]; rfl
  obtain ⟨m, hm⟩ := hml i hlt
  have hmd : ms.drop i = m :: ms.drop (i + 1) := by
   have h1 := (List.getElem?_eq_some_iff.1 hm)
   rw [List.drop_eq_getElem_cons h1.1, h1.2]
  rw [hmd] at hr
  subst hlen
  change (dOne P nt all o es.length m (cDraw P nt all l (ms.drop (es.length + 1)) (es.length + 1))).f base r S tm df h nx d = _ at hr
  unfold dOne at hr
  cases hp : cPut nt o.dst with
  | none => rw [hp] at hr; cases hr
  | some p =>
   rw [hp] at hr
   simp only at hr
   have fin : ∀ (x : Ent) (cs1 : List Cor) (h1 : Hp) (nx1 : Nat) (d1 : Dr), coreAt cs1 h1 nx1 0 = coreAt cs h nx 0 → TraceOK P nt base all r tm0 ms (es ++ [x]) cs1 (p.f tm x.v) h1 nx1 d1 →
     (cDraw P nt all l (ms.drop (es.length + 1)) (es.length + 1)).f base r S (p.f tm x.v) df h1 nx1 d1 = .ok e tm' df' h' nx' →
     ∃ es' cs' h2 d2 ps', es'.length = all.length ∧ TraceOK P nt base all r tm0 ms es' cs' tm' h2 nx' d2 ∧ e = .normal ∧ df' = df ∧ joinP (2 ^ all.length - 1) d2.ps h2 = .ok h' ps' ∧ coreAt cs' h2 nx' 0 = coreAt cs h nx 0 :=
    fun x cs1 h1 nx1 d1 hc T1 hr1 => by
     obtain ⟨es', cs', h2, d2, ps', a1, a2, a3, a4, a5, a6⟩ := ih (es.length + 1) hd hlt (es ++ [x]) cs1 _ h1 nx1 d1 S df (by simp) T1 e tm' df' h' nx' hr1
     exact ⟨es', cs', h2, d2, ps', a1, a2, a3, a4, a5, a6.trans hc⟩
   have yes : WantsB all o tm true → (dOper P (heavy o.op) { o := o.op, i := es.length, m, place := (plc o) } p (cDraw P nt all l (ms.drop (es.length + 1)) (es.length + 1))).f base r S tm df h nx d = .ok e tm' df' h' nx' →
     ∃ es' cs' h2 d2 ps', es'.length = all.length ∧ TraceOK P nt base all r tm0 ms es' cs' tm' h2 nx' d2 ∧ e = .normal ∧ df' = df ∧ joinP (2 ^ all.length - 1) d2.ps h2 = .ok h' ps' ∧ coreAt cs' h2 nx' 0 = coreAt cs h nx 0 := by
    intro hw hr1
    obtain ⟨x, cs', h1, nx1, d1, hc, T1, hr2⟩ := oper_trace T ho hm (hmb _ m hlt hm) hp hw hr1
    exact fin x cs' h1 nx1 d1 hc T1 hr2
   cases hg : o.guard with
   | none => 
    rw [hg] at hr
    exact yes (by unfold WantsB; rw [hg]) hr
   | some q =>
    obtain ⟨j, want⟩ := q
    rw [hg] at hr
    change (match (cGuardD want (gdst all j)).f tm with
     | some true => (dOper P (heavy o.op) { o := o.op, i := es.length, m, place := (plc o) } p (cDraw P nt all l (ms.drop (es.length + 1)) (es.length + 1))).f base r S tm df h nx d
     | some false => (dSkip p (cDraw P nt all l (ms.drop (es.length + 1)) (es.length + 1))).f base r S tm df h nx d
     | none => C.no "guard" (plc o)) = _ at hr
    cases hgd : (cGuardD want (gdst all j)).f tm with
    | none => rw [hgd] at hr; cases hr
    | some b =>
     rw [hgd] at hr
     have hw : WantsB all o tm b := by unfold WantsB; rw [hg]; exact hgd
     cases b with
     | true => exact yes hw hr
     | false =>
      have hr' : (cDraw P nt all l (ms.drop (es.length + 1)) (es.length + 1)).f base r S (p.f tm undef) df h nx d = .ok e tm' df' h' nx' := hr
      refine fin { o, m, v := undef, k := .skip } cs h nx d rfl ?_ hr'
      rw [put_f hp]
      exact T.light (e := { o, m, v := undef, k := .skip }) ho hm ⟨⟨p, hp⟩, rfl, hw⟩ rfl rfl (T.pend.snoc _) (fun x hx => hx) (fun hx => by cases hx)
end
end Go.Proofs.YtpnaenbpffhjfaaGreatDoor.Ev

namespace Go.Proofs.YtpnaenbpffhjfaaGreatDoor.Ev
theorem Rel.keep {σ : Sg} {h : Hp} {nx : Nat} {w : World} (R : Rel σ h nx w) {rs : Nat → Prop} (hr : ∀ b, rs b → σ.res b) : Rel (σ.with rs) h nx w :=
 have hm : Sg.sub σ (σ.with rs) := ⟨fun _ _ h => h, fun _ _ h => h⟩
 ⟨⟨fun b o hb => (R.obj b o hb).imp id fun ⟨i, a, c, d⟩ => ⟨i, a, c, fun hl => (d hl).mono hm⟩, R.new, R.fams, R.sep, R.lat, R.mx, fun b hb => R.rsv b (hr b hb), fun g hg => R.gl g hg⟩, R.fz⟩
theorem Fwd.keep {σ τ : Sg} {rs0 rs : Nat → Prop} {h h' : Hp} {w w' : World} (F : Fwd (σ.with rs0) h w τ h' w') : Fwd (σ.with rs) h w (τ.with rs) h' w' :=
 ⟨⟨⟨F.sub.fn.f, F.sub.fn.R⟩, rfl⟩, F.os, F.tape, F.output, F.size, F.image, F.imt, F.frame, F.fr⟩
theorem PO.keep {σ : Sg} {core : Hp} {nx : Nat} {w : World} {p : Pend} (h : PO σ core nx w p) (rs : Nat → Prop) : PO (σ.with rs) core nx w p :=
 have hm : Sg.sub σ (σ.with rs) := ⟨fun _ _ h => h, fun _ _ h => h⟩
 let ⟨a, b, c, d, i, e, f, g, k⟩ := h
 ⟨a, b, c, d, i, e, f, g.mono hm, k⟩
theorem VR.keep {σ : Sg} {v v' : Value} (h : VR σ v v') (rs : Nat → Prop) : VR (σ.with rs) v v' := h.mono (σ := σ) (τ := σ.with rs) (show Sg.sub σ (σ.with rs) from ⟨fun _ _ h => h, fun _ _ h => h⟩)
theorem TR.keep {σ : Sg} {nt : Nat} {tm : Tr Value} {tmps : Array Value} (h : TR σ nt tm tmps) (rs : Nat → Prop) : TR (σ.with rs) nt tm tmps := h.mono (σ := σ) (τ := σ.with rs) (show Sg.sub σ (σ.with rs) from ⟨fun _ _ h => h, fun _ _ h => h⟩)
theorem Rel.leaf {σ : Sg} {h : Hp} {nx : Nat} {w : World} (R : Rel σ h nx w) : Rel σ .leaf nx w :=
 have no : ∀ (b : Nat) (o : AO), (Tr.leaf : Hp).get b ≠ some o := fun b o h => by rw [leaf_get] at h; cases h
 ⟨⟨fun b o h => (no b o h).elim, fun b hb => ⟨(R.new b hb).1, leaf_get b⟩, fun b la al h => (no _ _ h).elim,
  fun b1 b2 o1 o2 i1 i2 h => (no _ _ h).elim, fun b o L oL i iL al h => (no _ _ h).elim, fun b o L al h => (no _ _ h).elim, fun b hb => ⟨(R.rsv b hb).1, (R.rsv b hb).2.1, leaf_get b⟩, R.gl⟩, R.fz.less (fun _ _ h => h) fun r ⟨b, o, _, hb, _⟩ => (no b o hb).elim⟩

theorem tmF_none {D : Nat → Bool} {t : Nat} : ∀ {es : List Ent} {i : Nat} {tm : Tr Value}, (∀ j e, es[j]? = some e → e.o.dst = some t → D (i + j) = false) → (tmF D i es tm).get t = tm.get t
 | [], i, tm, _ => rfl
 | e :: es, i, tm, h => by
  show (tmF D (i + 1) es _).get t = _
  rw [tmF_none (fun j x hj hx => by have := h (j + 1) x (by simpa using hj) hx; rw [show i + 1 + j = i + (j + 1) by omega]; exact this)]
  by_cases hx : e.o.dst = some t
  ·have := h 0 e rfl hx
   rw [Nat.add_zero] at this
   rw [if_neg (by rw [this]; simp)]
  ·by_cases hD : D i = true
   ·rw [if_pos hD, putT_get, if_neg hx]
   ·rw [if_neg hD]
theorem tmF_last {D : Nat → Bool} {t : Nat} : ∀ {es : List Ent} {i j : Nat} {tm : Tr Value} {x : Ent}, es[j]? = some x → x.o.dst = some t → D (i + j) = true → (∀ j' e, j < j' → es[j']? = some e → e.o.dst = some t → D (i + j') = false) →
  (tmF D i es tm).get t = some x.v
 | [], _, _, _, _, h, _, _, _ => by simp at h
 | e :: es, i, 0, tm, x, h, hd, hD, hl => by
  simp at h; subst h
  rw [Nat.add_zero] at hD
  show (tmF D (i + 1) es _).get t = _
  rw [tmF_none (fun j y hj hy => by have := hl (j + 1) y (by omega) (by simpa using hj) hy; rw [show i + 1 + j = i + (j + 1) by omega]; exact this)]
  rw [if_pos hD, putT_get, if_pos hd]
 | e :: es, i, j + 1, tm, x, h, hd, hD, hl => by
  show (tmF D (i + 1) es _).get t = _
  exact tmF_last (i := i + 1) (j := j) (by simpa using h) hd (by rw [show i + 1 + j = i + (j + 1) by omega]; exact hD) fun j' y hj' hy hyd => by
   have := hl (j' + 1) y (by omega) (by simpa using hy) hyd
   rw [show i + 1 + j' = i + (j' + 1) by omega]; exact this
theorem TR.same {σ : Sg} {nt : Nat} {tm tm' : Tr Value} {tmps : Array Value} (h : TR σ nt tm tmps) (he : ∀ t, tm'.get t = tm.get t) : TR σ nt tm' tmps := ⟨h.1, fun t v ht => h.2 t v (by rw [← he]; exact ht)⟩
theorem dB_bit {d : Option Tmp} {t : Nat} : (dB d).testBit t = true ↔ d = some t := by
 cases d with
 | none => simp [dB]
 | some d => show (Nat.pow 2 d).testBit t = true ↔ _; rw [pow_bit]; simp
theorem pairOk_spec {m d l : Nat} {e : SE} (h : pairOk m d l e = true) : m.testBit e.i = true ∨ (Nat.land e.d l = 0 ∧ Nat.land d e.l = 0) := by
 unfold pairOk at h
 cases hb : m.testBit e.i with
 | true => exact .inl rfl
 | false =>
  rw [hb] at h
  simp only at h
  cases h1 : Nat.beq (Nat.land e.d l) 0 with
  | false => rw [h1] at h; cases h
  | true => rw [h1] at h; exact .inr ⟨beq_true.1 h1, beq_true.1 h⟩
theorem seen_parts (all : List Oper) (o : Oper) (t : Nat) : (seenB all o).testBit t = ((lookB o.op).testBit t || ((guardB all o.guard).testBit t || (dB o.dst).testBit t)) := by
 unfold seenB
 rw [lor_bit, lor_bit]
end Go.Proofs.YtpnaenbpffhjfaaGreatDoor.Ev

namespace Go.Proofs.YtpnaenbpffhjfaaGreatDoor.Ev
structure Reg where
 P : Program
 nt : Nat
 base : Nat
 ops : Array Oper
 r : Rec
 tm0 : Tr Value
 es : List Ent
 cs : List Cor
 tmn : Tr Value
 hn : Hp
 nxn : Nat
 dn : Dr
 σ0 : Sg
 h0 : Hp
 w0 : World
 a0 : Act
 ro : Option Nat
abbrev Reg.all (X : Reg) : List Oper := X.ops.toList
abbrev Reg.C (X : Reg) (k : Nat) : Hp × Nat := coreAt X.cs X.hn X.nxn k
def lst (listed : Array Bool) (i : Nat) : Bool := listed.getD i false
def Wt (X : Reg) (listed : Array Bool) (k i : Nat) (ao : AO) : Prop :=
 (∃ e, X.es[i]? = some e ∧ e.k = .made ao) ∧ lst listed i = true ∧ ∀ (k' : Nat) (c : Cor), k' < k → X.cs[k']? = some c → c.m.testBit i = false
def resOf (X : Reg) (listed : Array Bool) (b : Nat) : Prop := X.σ0.res b ∨ ∃ i, i < X.ops.size ∧ b = X.base + i ∧ lst listed i = false
structure Inv (X : Reg) (listed : Array Bool) (σ : Sg) (a : Act) (w : World) (k : Nat) : Prop where
 size : listed.size = X.ops.size
 clo : ∀ (i : Nat) (e : Ent), X.es[i]? = some e → lst listed i = true → ∀ b, e.m.testBit b = true → lst listed b = true
 kle : k ≤ X.cs.length
 kk : ∀ (k' : Nat) (c : Cor), X.cs[k']? = some c → (lst listed c.ix = true ↔ k' < k)
 R : Rel σ (X.C k).1 (X.C k).2 w
 F : Fwd (X.σ0.with σ.res) X.h0 X.w0 σ (X.C k).1 w
 nx : X.base + X.ops.size ≤ (X.C k).2
 res : ∀ b, σ.res b ↔ resOf X listed b
 T : TR σ X.nt (tmF (lst listed) 0 X.es X.tm0) a.tmps
 dfr : a.defers = X.a0.defers
 ex : ∀ i ao, Wt X listed k i ao → PO σ (X.C k).1 (X.C k).2 w { ix := i, id := X.base + i, ao } ∧ ∀ y, σ (X.base + i) = some y → X.w0.heap.size ≤ y.r
 ap : ∀ i ao i' ao', Wt X listed k i ao → Wt X listed k i' ao' → i ≠ i' → ∀ x y, σ (X.base + i) = some x → σ (X.base + i') = some y → x.r ≠ y.r
structure RegOK (X : Reg) : Prop where
 T : TraceOK X.P X.nt X.base X.all X.r X.tm0 (masks X.all) X.es X.cs X.tmn X.hn X.nxn X.dn
 len : X.es.length = X.ops.size
 st : statics X.all X.all (masks X.all) 0 [] = true
 G : RecGood X.P X.r
 pos : 1 ≤ X.base
 res0 : ∀ b, X.σ0.res b → b < X.base

section
variable {X : Reg} {listed : Array Bool} {σ : Sg} {a : Act} {w : World} {k : Nat}
theorem RegOK.ent (hX : RegOK X) {j : Nat} (hj : j < X.ops.size) : ∃ x, X.es[j]? = some x := ⟨_, List.getElem?_eq_getElem (by rw [hX.len]; exact hj)⟩
theorem RegOK.op (hX : RegOK X) {j : Nat} {x : Ent} (hx : X.es[j]? = some x) : X.ops[j]? = some x.o := by
 have := (hX.T.ops j x hx).1
 simpa using this
theorem RegOK.lt (hX : RegOK X) {j : Nat} {x : Ent} (hx : X.es[j]? = some x) : j < X.ops.size := by
 have := (List.getElem?_eq_some_iff.1 hx).1
 rw [hX.len] at this; exact this
theorem RegOK.pair (hX : RegOK X) {i j : Nat} {x y : Ent} (hi : X.es[i]? = some x) (hj : X.es[j]? = some y) (hlt : i < j) :
  y.m.testBit i = true ∨ (∀ t, x.o.dst = some t → (seenB X.all y.o).testBit t = false) ∧ ∀ t, y.o.dst = some t → (seenB X.all x.o).testBit t = false := by
 obtain ⟨hxo, hxm⟩ := hX.T.ops i x hi
 obtain ⟨hyo, hym⟩ := hX.T.ops j y hj
 obtain ⟨m, h1, _, _, h4⟩ := statics_spec X.all X.all (masks X.all) 0 [] hX.st j y.o hyo
 rw [hym] at h1; cases h1
 have := h4 i x.o hlt hxo
 rw [Nat.zero_add] at this
 rcases pairOk_spec this with h | ⟨ha, hb⟩
 ·exact .inl h
 ·exact .inr ⟨fun t ht => land_zero ha (dB_bit.2 ht), fun t ht => land_zero hb (dB_bit.2 ht)⟩
theorem RegOK.mlt (hX : RegOK X) {j : Nat} {y : Ent} (hj : X.es[j]? = some y) : y.m < 2 ^ j := by
 obtain ⟨hyo, hym⟩ := hX.T.ops j y hj
 obtain ⟨m, h1, h2, _, _⟩ := statics_spec X.all X.all (masks X.all) 0 [] hX.st j y.o hyo
 rw [hym] at h1; cases h1
 rw [Nat.zero_add] at h2; exact h2
theorem RegOK.mask (hX : RegOK X) {j : Nat} {y : Ent} (hj : X.es[j]? = some y) :
  (∀ e ∈ y.o.after.toList, Region.binds .any e = true → e.on < j) ∧
  ∀ b, y.m.testBit b = true → ∃ e ∈ y.o.after.toList, Region.binds .any e = true ∧ (b = e.on ∨ ∃ z, X.es[e.on]? = some z ∧ z.m.testBit b = true) := by
 obtain ⟨hyo, hym⟩ := hX.T.ops j y hj
 have hs := (masksF_spec X.all []).2.2 j y.o hyo
 simp only [List.length_nil, Nat.zero_add] at hs
 change (masks X.all)[j]? = some (maskOf ((masks X.all).take j) y.o.after.toList) at hs
 rw [hym] at hs
 have hm : y.m = maskOf ((masks X.all).take j) y.o.after.toList := Option.some.inj hs
 refine ⟨fun e he hb => ?_, fun b hb => ?_⟩
 ·have := maskOf_on ((masks X.all).take j) y.o.after.toList e he hb
  rw [← hm] at this
  rcases Nat.lt_or_ge e.on j with h | h
  ·exact h
  ·rw [Nat.testBit_lt_two_pow (Nat.lt_of_lt_of_le (hX.mlt hj) (Nat.pow_le_pow_right (by decide) h))] at this; cases this
 ·rw [hm] at hb
  obtain ⟨e, h1, h2, h3⟩ := maskOf_bit _ _ b hb
  refine ⟨e, h1, h2, h3.imp id fun ⟨m, h4, h5⟩ => ?_⟩
  rw [List.getElem?_take] at h4
  by_cases hlt : e.on < j
  ·rw [if_pos hlt] at h4
   obtain ⟨z, hz⟩ := hX.ent (Nat.lt_trans hlt (hX.lt hj))
   have := (hX.T.ops _ z hz).2
   rw [h4] at this
   cases this
   exact ⟨z, hz, h5⟩
  ·rw [if_neg hlt] at h4; cases h4

structure Rdy (X : Reg) (listed : Array Bool) (j : Nat) (x : Ent) : Prop where
 at_ : X.es[j]? = some x
 un : lst listed j = false
 ahead : ∀ b, x.m.testBit b = true → lst listed b = true
theorem Inv.ready (I : Inv X listed σ a w k) (hX : RegOK X) {j : Nat} (hj : j ∈ Region.ready .any X.ops listed) : ∃ x, Rdy X listed j x := by
 obtain ⟨h1, o, ho, hall⟩ := mem_ready.1 hj
 have hlt : j < X.ops.size := (Array.getElem?_eq_some_iff.1 ho).1
 obtain ⟨x, hx⟩ := hX.ent hlt
 have hxo := hX.op hx
 rw [ho] at hxo
 have hxo' := Option.some.inj hxo
 refine ⟨x, hx, ?_, fun b hb => ?_⟩
 ·have hs : j < listed.size := by rw [I.size]; exact hlt
  unfold lst
  simpa [hs] using h1
 ·obtain ⟨e, h1, h2, h3⟩ := (hX.mask hx).2 b hb
  have hon : lst listed e.on = true := hall e (by rw [hxo']; simpa using h1) h2
  rcases h3 with rfl | ⟨z, hz, hzb⟩
  ·exact hon
  ·exact I.clo _ z hz hon b hzb
theorem lst_set {j : Nat} (hj : j < listed.size) (i : Nat) : lst (listed.setIfInBounds j true) i = if i = j then true else lst listed i := by
 unfold lst
 by_cases e : i = j
 ·subst e
  simp [hj]
 ·rw [if_neg e]
  exact getD_set_ne false (Ne.symm e)
theorem Inv.seen (I : Inv X listed σ a w k) (hX : RegOK X) {j : Nat} {x : Ent} (hr : Rdy X listed j x) :
  SameB (seenB X.all x.o) (tmF (lst listed) 0 X.es X.tm0) (tmA X.es X.tm0 j) := by
 intro t ht
 refine tmF_get _ _ t X.es 0 _ _ rfl fun i e he hd => ?_
 rw [Nat.zero_add]
 rcases Nat.lt_trichotomy i j with h | h | h
 ·have h1 : Nat.blt i j = true := blt_true.2 h
  rw [h1]
  rcases hX.pair he hr.at_ h with h2 | ⟨h2, _⟩
  ·exact hr.ahead i h2
  ·rw [h2 t hd] at ht; cases ht
 ·subst h
  have h1 : Nat.blt i i = false := by
   cases hb : Nat.blt i i with
   | false => rfl
   | true => exact absurd (blt_true.1 hb) (Nat.lt_irrefl _)
  rw [h1]; exact hr.un
 ·have h1 : Nat.blt i j = false := by
   cases hb : Nat.blt i j with
   | false => rfl
   | true => have := blt_true.1 hb; omega
  rw [h1]
  cases hl : lst listed i with
  | false => rfl
  | true =>
   rcases hX.pair hr.at_ he h with h2 | ⟨_, h2⟩
   ·have := I.clo i e he hl j h2
    rw [hr.un] at this; cases this
   ·rw [h2 t hd] at ht; cases ht
theorem Inv.put (I : Inv X listed σ a w k) (hX : RegOK X) {j : Nat} {x : Ent} (hr : Rdy X listed j x) (t : Nat) :
  (tmF (lst (listed.setIfInBounds j true)) 0 X.es X.tm0).get t = (putT x.o.dst x.v (tmF (lst listed) 0 X.es X.tm0)).get t := by
 have hs : j < listed.size := by rw [I.size]; exact hX.lt hr.at_
 rw [putT_get]
 by_cases hd : x.o.dst = some t
 ·rw [if_pos hd]
  refine tmF_last hr.at_ hd (by rw [Nat.zero_add, lst_set hs, if_pos rfl]) fun j' e hlt he hed => ?_
  rw [Nat.zero_add, lst_set hs, if_neg (by omega)]
  cases hl : lst listed j' with
  | false => rfl
  | true =>
   rcases hX.pair hr.at_ he hlt with h2 | ⟨h2, _⟩
   ·have := I.clo j' e he hl j h2
    rw [hr.un] at this; cases this
   ·have := h2 t hd
    rw [seen_parts, dB_bit.2 hed] at this
    simp at this
 ·rw [if_neg hd]
  refine tmF_get _ _ t X.es 0 _ _ rfl fun i e he hed => ?_
  rw [Nat.zero_add, lst_set hs]
  by_cases e1 : i = j
  ·subst e1
   rw [hr.at_] at he; cases he
   exact (hd hed).elim
  ·rw [if_neg e1]
end
end Go.Proofs.YtpnaenbpffhjfaaGreatDoor.Ev

namespace Go.Proofs.YtpnaenbpffhjfaaGreatDoor.Ev
section
variable {X : Reg} {listed : Array Bool} {σ : Sg} {a : Act} {w : World} {k : Nat}
theorem Inv.sz (I : Inv X listed σ a w k) (hX : RegOK X) {j : Nat} {x : Ent} (hr : Rdy X listed j x) : j < listed.size := by rw [I.size]; exact hX.lt hr.at_
theorem Inv.clo' (I : Inv X listed σ a w k) (hX : RegOK X) {j : Nat} {x : Ent} (hr : Rdy X listed j x) :
  ∀ (i : Nat) (e : Ent), X.es[i]? = some e → lst (listed.setIfInBounds j true) i = true → ∀ b, e.m.testBit b = true → lst (listed.setIfInBounds j true) b = true := by
 intro i e he hl b hb
 rw [lst_set (I.sz hX hr)] at hl ⊢
 by_cases e1 : b = j
 ·rw [if_pos e1]
 ·rw [if_neg e1]
  by_cases e2 : i = j
  ·subst e2
   rw [hr.at_] at he; cases he
   exact hr.ahead b hb
  ·rw [if_neg e2] at hl
   exact I.clo i e he hl b hb
theorem Inv.res_sub (I : Inv X listed σ a w k) (hX : RegOK X) {j : Nat} {x : Ent} (hr : Rdy X listed j x) : ∀ b, resOf X (listed.setIfInBounds j true) b → σ.res b := by
 intro b hb
 rw [I.res]
 rcases hb with hb | ⟨i, h1, h2, h3⟩
 ·exact .inl hb
 ·refine .inr ⟨i, h1, h2, ?_⟩
  rw [lst_set (I.sz hX hr)] at h3
  by_cases e : i = j
  ·rw [if_pos e] at h3; cases h3
  ·rw [if_neg e] at h3; exact h3
theorem Wt.back (I : Inv X listed σ a w k) (hX : RegOK X) {j : Nat} {x : Ent} (hr : Rdy X listed j x) {i : Nat} {ao : AO} (h : Wt X (listed.setIfInBounds j true) k i ao) (hne : i ≠ j) : Wt X listed k i ao := by
 obtain ⟨h1, h2, h3⟩ := h
 rw [lst_set (I.sz hX hr), if_neg hne] at h2
 exact ⟨h1, h2, h3⟩
theorem Inv.still (I : Inv X listed σ a w k) (hX : RegOK X) {j : Nat} {x : Ent} (hr : Rdy X listed j x) (hnh : x.k ≠ .heavy) (hnm : ∀ ao, x.k ≠ .made ao) {v' : Value} (hv : VR σ x.v v')
  {p : KP} (hp : cPut X.nt x.o.dst = some p) : Inv X (listed.setIfInBounds j true) (σ.with (resOf X (listed.setIfInBounds j true))) (a.put x.o.dst v') w k where
 size := by rw [Array.size_setIfInBounds]; exact I.size
 clo := I.clo' hX hr
 kle := I.kle
 kk k' c hc := by
  rw [lst_set (I.sz hX hr), if_neg, I.kk k' c hc]
  intro e
  obtain ⟨y, y1, y2, _⟩ := hX.T.hvk k' c hc
  rw [e, hr.at_] at y1; cases y1
  exact hnh y2
 R := I.R.keep (I.res_sub hX hr)
 F := I.F.keep
 nx := I.nx
 res b := Iff.rfl
 T := by
  refine (cPut_good hp (I.T.keep _) (hv.keep _)).same fun t => ?_
  rw [put_f hp]; exact I.put hX hr t
 dfr := (put_defers _ _ _).trans I.dfr
 ex i ao h := by
  have hne : i ≠ j := by
   intro e
   obtain ⟨⟨y, y1, y2⟩, _⟩ := h
   rw [e, hr.at_] at y1; cases y1
   exact hnm _ y2
  obtain ⟨h1, h2⟩ := I.ex i ao (h.back I hX hr hne)
  exact ⟨h1.keep _, h2⟩
 ap i ao i' ao' h h' hne := by
  have hne1 : i ≠ j := by
   intro e
   obtain ⟨⟨y, y1, y2⟩, _⟩ := h
   rw [e, hr.at_] at y1; cases y1
   exact hnm _ y2
  have hne2 : i' ≠ j := by
   intro e
   obtain ⟨⟨y, y1, y2⟩, _⟩ := h'
   rw [e, hr.at_] at y1; cases y1
   exact hnm _ y2
  exact I.ap i ao i' ao' (h.back I hX hr hne1) (h'.back I hX hr hne2) hne
theorem Inv.join (I : Inv X listed σ a w k) (hX : RegOK X) {m : Nat} (hm : ∀ b, m.testBit b = true → lst listed b = true) {qs : List Pend} (hq : Pends X.base X.es X.cs k qs) {h1 : Hp} {ps' : List Pend}
  (hj : joinP m qs (X.C k).1 = .ok h1 ps') : Rel σ h1 (X.C k).2 w ∧ Fwd (X.σ0.with σ.res) X.h0 X.w0 σ h1 w ∧
   ∀ i ao, Wt X listed k i ao → m.testBit i = false → PO σ h1 (X.C k).2 w { ix := i, id := X.base + i, ao } := by
 have hw : ∀ p ∈ qs, Taken m p → Wt X listed k p.ix p.ao ∧ p.id = X.base + p.ix := fun p hp ht => by
  obtain ⟨h1, h2, h3⟩ := hq.1 p hp
  exact ⟨⟨h1, hm _ ht, h3⟩, h2⟩
 have hpe : ∀ p ∈ qs, Taken m p → p = { ix := p.ix, id := X.base + p.ix, ao := p.ao } := fun p hp ht => by
  obtain ⟨ix, id, ao⟩ := p
  have := (hw _ hp ht).2
  simp only at this
  subst this
  rfl
 have hPO : ∀ p ∈ qs, Taken m p → PO σ (X.C k).1 (X.C k).2 w p := fun p hp ht => by
  have := (I.ex p.ix p.ao (hw p hp ht).1).1
  rw [← hpe p hp ht] at this
  exact this
 have hAp : ∀ {i ao i' ao'}, Wt X listed k i ao → Wt X listed k i' ao' → i ≠ i' → Apart σ { ix := i, id := X.base + i, ao } { ix := i', id := X.base + i', ao := ao' } := fun {i ao i' ao'} h h' hne =>
  ⟨by show X.base + i ≠ X.base + i'; omega, fun x y hx hy => I.ap i ao i' ao' h h' hne x y hx hy⟩
 obtain ⟨R1, _, I1, P1⟩ := joinP_good qs (X.C k).1 h1 ps' hj I.R hPO (by
  refine hq.2.imp_of_mem fun {p q} hp hq' hne tp tq => ?_
  have h1 := hAp (hw p hp tp).1 (hw q hq' tq).1 hne
  have h2 := hAp (hw q hq' tq).1 (hw p hp tp).1 (Ne.symm hne)
  rw [← hpe p hp tp, ← hpe q hq' tq] at h1 h2
  exact ⟨h1, h2⟩)
 refine ⟨R1, ⟨I.F.sub, I.F.os, I.F.tape, I.F.output, I.F.size, fun r hr => ?_, fun r hr => ?_, I.F.frame, I.F.fr⟩, fun i ao hwt hb => P1 _ (I.ex i ao hwt).1 fun p hp ht => ?_⟩
 ·rcases I1 r hr with h | ⟨p, hp, ht, i, hi, hir⟩
  ·exact I.F.image r h
  ·refine .inr ?_
   have := (I.ex p.ix p.ao (hw p hp ht).1).2 i (by rw [← (hw p hp ht).2]; exact hi)
   omega
 ·rcases joinP_it qs (X.C k).1 h1 ps' hj hPO r hr with h | ⟨p, hp, ht, i, hi, hir⟩
  ·exact I.F.imt r h
  ·refine .inr ?_
   have := (I.ex p.ix p.ao (hw p hp ht).1).2 i (by rw [← (hw p hp ht).2]; exact hi)
   omega
 ·have hne : p.ix ≠ i := by
   intro e
   have h1 : m.testBit p.ix = true := ht
   rw [e, hb] at h1; cases h1
  have := hAp (hw p hp ht).1 hwt hne
  rw [← hpe p hp ht] at this
  exact this
theorem Inv.make (I : Inv X listed σ a w k) (hX : RegOK X) {j : Nat} {x : Ent} {ao : AO} (hr : Rdy X listed j x) (hk : x.k = .made ao) {p : KP} (hp : cPut X.nt x.o.dst = some p)
  {v' : Value} {w1 : World} {i : BI} {ob : Obj} (hw : w1.heap = w.heap.push ob) (hos : w1.os = w.os) (htp : w1.tape = w.tape) (hout : w1.output = w.output) (hir : i.r = w.heap.size) (hf : famOf ao = 0) (hnf : ¬ isFam ao)
  (hor : OR (Sg.add σ (X.base + j) i) w1 i ao) (hv : VR (Sg.add σ (X.base + j) i) x.v v') :
  Inv X (listed.setIfInBounds j true) (Sg.add (σ.with (resOf X (listed.setIfInBounds j true))) (X.base + j) i) (a.put x.o.dst v') w1 k := by
 have hlt := hX.lt hr.at_
 have hres : σ.res (X.base + j) := (I.res _).2 (.inr ⟨j, hlt, rfl, hr.un⟩)
 obtain ⟨r1, r2, r3⟩ := I.R.rsv _ hres
 have hnr : ¬ (σ.with (resOf X (listed.setIfInBounds j true))).res (X.base + j) := by
  rintro (h | ⟨i', h1, h2, h3⟩)
  ·have := hX.res0 _ h; omega
  ·have : i' = j := by omega
   subst this
   rw [lst_set (I.sz hX hr), if_pos rfl] at h3; cases h3
 have hsz : w.heap.size ≤ w1.heap.size := by rw [hw]; simp
 have hold : ∀ r, r < w.heap.size → w1.heap[r]? = w.heap[r]? := fun r hr => by rw [hw, Array.getElem?_push, if_neg (by omega)]
 have hsub : Sg.sub σ (Sg.add (σ.with (resOf X (listed.setIfInBounds j true))) (X.base + j) i) := ⟨fun b y hy => (by
  rw [Sg.add_ne]
  ·exact hy
  ·intro e; subst e; rw [r2] at hy; cases hy), fun _ _ h => h⟩
 have hsub2 : Sg.sub (Sg.add σ (X.base + j) i) (Sg.add (σ.with (resOf X (listed.setIfInBounds j true))) (X.base + j) i) := ⟨fun b y hy => hy, fun _ _ h => h⟩
 have hIm : ∀ r, Im (Sg.add (σ.with (resOf X (listed.setIfInBounds j true))) (X.base + j) i) (X.C k).1 r → Im σ (X.C k).1 r := fun r h => (Im.wait r3).1 h
 have holdR : ∀ {b y}, b ≠ X.base + j → (Sg.add (σ.with (resOf X (listed.setIfInBounds j true))) (X.base + j) i) b = some y → σ b = some y := fun {b y} hb hy => by
  rw [Sg.add_ne _ _ hb] at hy; exact hy
 refine ⟨by rw [Array.size_setIfInBounds]; exact I.size, I.clo' hX hr, I.kle, ?_, ?_, ?_, I.nx, fun b => Iff.rfl, ?_, (put_defers _ _ _).trans I.dfr, ?_, ?_⟩
 ·intro k' c hc
  rw [lst_set (I.sz hX hr), if_neg, I.kk k' c hc]
  intro e
  obtain ⟨y, y1, y2, _⟩ := hX.T.hvk k' c hc
  rw [e, hr.at_] at y1; cases y1
  rw [hk] at y2; cases y2
 ·exact (I.R.keep (I.res_sub hX hr)).wait r2 hnr r3 r1 hsz hold
 ·refine ⟨⟨⟨fun b y hy => hsub b y (I.F.sub.fn b y hy), I.F.sub.fn.R⟩, rfl⟩, hos.trans I.F.os, htp.trans I.F.tape, hout.trans I.F.output, Nat.le_trans I.F.size hsz, fun r hr => I.F.image r (hIm r hr), fun r hr => I.F.imt r (It.wait r3 hr), fun r hr hn => ?_, I.F.fr⟩
  rw [hold r (Nat.lt_of_lt_of_le hr I.F.size)]
  exact I.F.frame r hr hn
 ·refine (cPut_good hp (I.T.mono hsub) (hv.mono hsub2)).same fun t => ?_
  rw [put_f hp]; exact I.put hX hr t
 ·intro i' ao' h
  by_cases hne : i' = j
  ·subst hne
   obtain ⟨⟨y, y1, y2⟩, _⟩ := h
   rw [hr.at_] at y1; cases y1
   rw [hk] at y2; cases y2
   refine ⟨⟨by show X.base + i' < _; have := I.nx; omega, r3, hf, hnf, i, Sg.add_eq _ _ _, by rw [hw]; simp; omega, hor.mono hsub2, fun hi => ?_, ?_⟩, fun y hy => ?_⟩
   ·obtain ⟨b, o, y, hb, hy, hyr⟩ := hIm _ hi
    have := (I.R.at_ hb hy).1
    omega
   ·show σ.R i.r = none
    cases he : σ.R i.r with
    | none => rfl
    | some o => have := I.R.fz.lt he; omega
   ·rw [Sg.add_eq] at hy; cases hy
    have := I.F.size
    omega
  ·obtain ⟨h1, h2⟩ := I.ex i' ao' (h.back I hX hr hne)
   refine ⟨(h1.keep _).wait r2 r3 hsz hold, fun y hy => h2 y (holdR (by omega) hy)⟩
 ·intro i1 ao1 i2 ao2 h h' hne x1 x2 hx1 hx2
  by_cases e1 : i1 = j
  ·subst e1
   rw [Sg.add_eq] at hx1; cases hx1
   have e2 : i2 ≠ i1 := Ne.symm hne
   obtain ⟨q1, q2, q3, q4, y, hy, hyr, _⟩ := (I.ex i2 ao2 (h'.back I hX hr e2)).1
   have := holdR (by omega) hx2
   rw [hy] at this; cases this
   omega
  ·by_cases e2 : i2 = j
   ·subst e2
    rw [Sg.add_eq] at hx2; cases hx2
    obtain ⟨q1, q2, q3, q4, y, hy, hyr, _⟩ := (I.ex i1 ao1 (h.back I hX hr e1)).1
    have := holdR (by omega) hx1
    rw [hy] at this; cases this
    omega
   ·exact I.ap i1 ao1 i2 ao2 (h.back I hX hr e1) (h'.back I hX hr e2) hne x1 x2 (holdR (by omega) hx1) (holdR (by omega) hx2)
end
end Go.Proofs.YtpnaenbpffhjfaaGreatDoor.Ev

namespace Go.Proofs.YtpnaenbpffhjfaaGreatDoor.Ev
section
variable {X : Reg} {listed : Array Bool} {σ : Sg} {a : Act} {w : World} {k : Nat}
theorem Inv.next (I : Inv X listed σ a w k) (hX : RegOK X) {j : Nat} {x : Ent} (hr : Rdy X listed j x) {k0 : Nat} (hk0 : k0 < X.cs.length) (hh : HeavyAt X.P X.base X.r X.es X.cs X.hn X.nxn j x (tmA X.es X.tm0 j) k0) : k0 = k := by
 obtain ⟨⟨c, hc, hcj, _⟩, hch, _⟩ := hh
 have h1 : ¬ k0 < k := fun h => by
  have := (I.kk k0 c hc).2 h
  rw [hcj, hr.un] at this; cases this
 cases k0 with
 | zero =>
  cases k with
  | zero => rfl
  | succ k => omega
 | succ k1 =>
  have hk1 : k1 < X.cs.length := by omega
  have := (I.kk k1 _ (List.getElem?_eq_getElem hk1)).1 (hr.ahead _ (hch k1 _ rfl (List.getElem?_eq_getElem hk1)))
  omega
theorem Inv.heavy (I : Inv X listed σ a w k) (hX : RegOK X) {j : Nat} {x : Ent} (hr : Rdy X listed j x) (hk : x.k = .heavy) {p : KP} (hp : cPut X.nt x.o.dst = some p) (hkl : k < X.cs.length) {c : Cor} (hc : X.cs[k]? = some c) (hcj : c.ix = j) (hcm : c.m = x.m)
  {h1 : Hp} {σ' : Sg} {v' : Value} {w1 : World} (R' : Rel σ' (X.C (k + 1)).1 (X.C (k + 1)).2 w1) (F0 : Fwd (X.σ0.with σ.res) X.h0 X.w0 σ h1 w) (F' : Fwd σ h1 w σ' (X.C (k + 1)).1 w1) (hv : VR σ' x.v v') (hn : (X.C k).2 ≤ (X.C (k + 1)).2)
  (hP : ∀ i ao, Wt X listed k i ao → x.m.testBit i = false → PO σ h1 (X.C k).2 w { ix := i, id := X.base + i, ao }) :
  Inv X (listed.setIfInBounds j true) (σ'.with (resOf X (listed.setIfInBounds j true))) (a.put x.o.dst v') w1 (k + 1) := by
 have hback : ∀ {i ao}, Wt X (listed.setIfInBounds j true) (k + 1) i ao → Wt X listed k i ao ∧ x.m.testBit i = false := by
  rintro i ao ⟨h1, h2, h3⟩
  have hne : i ≠ j := by
   intro e
   obtain ⟨y, y1, y2⟩ := h1
   rw [e, hr.at_] at y1; cases y1
   rw [hk] at y2; cases y2
  rw [lst_set (I.sz hX hr), if_neg hne] at h2
  exact ⟨⟨h1, h2, fun k' c' hk' hc' => h3 k' c' (by omega) hc'⟩, by rw [← hcm]; exact h3 k c (by omega) hc⟩
 have hres : σ'.res = σ.res := F'.sub.res
 refine ⟨by rw [Array.size_setIfInBounds]; exact I.size, I.clo' hX hr, hkl, ?_, R'.keep (fun b hb => by rw [hres]; exact I.res_sub hX hr b hb), ?_, Nat.le_trans I.nx hn, fun b => Iff.rfl, ?_, (put_defers _ _ _).trans I.dfr, ?_, ?_⟩
 ·intro k' c' hc'
  rw [lst_set (I.sz hX hr)]
  by_cases e : c'.ix = j
  ·rw [if_pos e]
   refine ⟨fun _ => ?_, fun _ => rfl⟩
   -- the same one
   rcases Nat.lt_trichotomy k' k with h | h | h
   ·omega
   ·omega
   ·have hpw := List.pairwise_iff_getElem.1 hX.T.inc k k' hkl (List.getElem?_eq_some_iff.1 hc').1 h
    rw [(List.getElem?_eq_some_iff.1 hc).2, (List.getElem?_eq_some_iff.1 hc').2] at hpw
    omega
  ·rw [if_neg e, I.kk k' c' hc']
   refine ⟨fun h => by omega, fun h => ?_⟩
   rcases Nat.lt_or_eq_of_le (Nat.le_of_lt_succ h) with h | h
   ·exact h
   ·subst h; rw [hc] at hc'; cases hc'; exact (e hcj).elim
 ·exact Fwd.keep (F0.trans F')
 ·have := cPut_good hp (I.T.mono F'.sub) hv
  refine (this.keep _).same fun t => ?_
  rw [put_f hp]; exact I.put hX hr t
 ·intro i ao h
  obtain ⟨h1', h2⟩ := hback h
  refine ⟨((hP i ao h1' h2).heavy R' F' hn).keep _, fun y hy => ?_⟩
  obtain ⟨_, h4⟩ := I.ex i ao h1'
  obtain ⟨_, _, _, _, z, hz, _⟩ := (I.ex i ao h1').1
  have h5 : σ' (X.base + i) = some z := F'.sub _ _ hz
  have h6 : σ' (X.base + i) = some y := hy
  rw [h5] at h6; cases h6
  exact h4 _ hz
 ·intro i ao i' ao' h h' hne y y' hy hy'
  obtain ⟨h1', h2⟩ := hback h
  obtain ⟨h1'', h2'⟩ := hback h'
  obtain ⟨_, _, _, _, z, hz, _⟩ := (I.ex i ao h1').1
  obtain ⟨_, _, _, _, z', hz', _⟩ := (I.ex i' ao' h1'').1
  have h5 : σ' (X.base + i) = some z := F'.sub _ _ hz
  have h6 : σ' (X.base + i) = some y := hy
  have h5' : σ' (X.base + i') = some z' := F'.sub _ _ hz'
  have h6' : σ' (X.base + i') = some y' := hy'
  rw [h5] at h6; cases h6
  rw [h5'] at h6'; cases h6'
  exact I.ap i ao i' ao' h1' h1'' hne _ _ hz hz'
theorem not_defer_light {P : Program} {o : Op} {tm : Tr Value} {h : Hp} {id : Nat} (hn : (cLight P o).f tm h id ≠ .no) : ∀ c, o ≠ .defer c := by
 intro c e; subst e; exact hn rfl
theorem wpIn_value {P : Program} {o : Oper} {a : Act} {w w1 : World} {v' : Value} {ro : Option Nat} (hnd : ∀ c, o.op ≠ .defer c) (hr : (execOp a.eval o).run P w = .ok (.value v') w1) {next : Act → World → Prop} {Q : Exit → Act → World → Prop}
  (hn : next (a.put o.dst v') w1) : o.wpIn (FwR ro) 0 P a w next Q := by
 refine ⟨fun _ _ => trivial, ?_⟩
 rw [Oper.semAt_eq _ _ _ hnd, hr]
 exact hn
theorem Inv.step (I : Inv X listed σ a w k) (hX : RegOK X) {j : Nat} (hj : j ∈ Region.ready .any X.ops listed) {K : Act → World → Prop} {Q : Exit → Act → World → Prop}
  (hK : ∀ σ' a' w' k', Inv X (listed.setIfInBounds j true) σ' a' w' k' → K a' w') : wpOpIn (FwR X.ro) 0 X.P X.ops Q j K a w := by
 obtain ⟨x, hr⟩ := I.ready hX hj
 have hE := hX.T.ents j x hr.at_
 obtain ⟨⟨p, hp⟩, hE⟩ := hE
 have hsb := I.seen hX hr
 have hlook : SameB (lookB x.o.op) (tmF (lst listed) 0 X.es X.tm0) (tmA X.es X.tm0 j) := fun t ht => hsb t (by rw [seen_parts, ht]; rfl)
 have hguard : SameB (guardB X.all x.o.guard) (tmF (lst listed) 0 X.es X.tm0) (tmA X.es X.tm0 j) := fun t ht => hsb t (by rw [seen_parts, ht]; simp)
 have hwant : ∀ b, WantsB X.all x.o (tmA X.es X.tm0 j) b → Region.wanted x.o (yielded X.ops a.tmps) = b := by
  intro b hw
  unfold WantsB at hw
  cases hg : x.o.guard with
  | none => rw [hg] at hw; simp only at hw; subst hw; unfold Region.wanted; rw [hg]
  | some q =>
   obtain ⟨g, want⟩ := q
   rw [hg] at hw
   simp only at hw
   rw [← guard_sameB hg hguard] at hw
   exact guard_good hg I.T hw
 have hres : σ.res (X.base + j) := (I.res _).2 (.inr ⟨j, hX.lt hr.at_, rfl, hr.un⟩)
 obtain ⟨r1, r2, r3⟩ := I.R.rsv _ hres
 unfold wpOpIn
 rw [hX.op hr.at_]
 simp only
 cases hkk : x.k with
 | skip =>
  rw [hkk] at hE
  obtain ⟨hv, hw⟩ := hE
  rw [if_neg (by rw [hwant _ hw]; simp)]
  refine ⟨fun _ _ => trivial, hK _ _ _ _ (I.still hX hr (by rw [hkk]; simp) (by rw [hkk]; simp) (v' := undef) ?_ hp)⟩
  rw [hv]; exact VR.undef
 | pure =>
  rw [hkk] at hE
  obtain ⟨hw, hh, hl⟩ := hE
  rw [if_pos (hwant _ hw)]
  rw [← light_sameB X.P x.o.op hlook] at hl
  have hG := cLight_good (P := X.P) x.o σ .leaf (X.C k).2 w a _ X.nt (X.base + j) I.R.leaf I.T r2 (leaf_get _)
  rw [hl] at hG
  obtain ⟨v', hrun, hv⟩ := hG
  exact wpIn_value (not_defer_light (by rw [hl]; simp)) hrun (hK _ _ _ _ (I.still hX hr (by rw [hkk]; simp) (by rw [hkk]; simp) hv hp))
 | made ao =>
  rw [hkk] at hE
  obtain ⟨hw, hh, hs, hl⟩ := hE
  rw [if_pos (hwant _ hw)]
  rw [← light_sameB X.P x.o.op hlook] at hl
  have hG := cLight_good (P := X.P) x.o σ .leaf (X.C k).2 w a _ X.nt (X.base + j) I.R.leaf I.T r2 (leaf_get _)
  rw [hl] at hG
  rcases hG with ⟨v', w1, i, ob, hrun, hheap, hos, htp, hout, hir, hf, hnf, hor, hv⟩ | ⟨h1, _⟩
  ·exact wpIn_value (not_defer_light (by rw [hl]; simp)) hrun (hK _ _ _ _ (I.make hX hr hkk hp hheap hos htp hout hir hf hnf hor hv))
  ·rw [hs] at h1; cases h1
 | read =>
  rw [hkk] at hE
  obtain ⟨hw, hh, hrd⟩ := hE
  rw [if_pos (hwant _ hw)]
  have hop : Open X.cs j x.m k := by
   refine ⟨fun k' c hk' hc => ?_, fun k' c hk' hc => ?_⟩
   ·cases hb : c.m.testBit j with
    | false => rfl
    | true =>
     obtain ⟨y, y1, _, y3⟩ := hX.T.hvk k' c hc
     have := I.clo _ y y1 ((I.kk k' c hc).2 hk') j (by rw [← y3]; exact hb)
     rw [hr.un] at this; cases this
   ·cases hb : x.m.testBit c.ix with
    | false => rfl
    | true =>
     have := (I.kk k' c hc).1 (hr.ahead _ hb)
     omega
  obtain ⟨qs, h', ps', hq, hjo, hl⟩ := hrd k I.kle hop
  obtain ⟨R1, _, _⟩ := I.join hX hr.ahead hq hjo
  rw [← light_sameB X.P x.o.op hlook] at hl
  have hG := cLight_good (P := X.P) x.o σ h' (X.C k).2 w a _ X.nt (X.base + j) R1 I.T r2 (R1.rsv _ hres).2.2
  rw [hl] at hG
  obtain ⟨v', hrun, hv⟩ := hG
  exact wpIn_value (not_defer_light (by rw [hl]; simp)) hrun (hK _ _ _ _ (I.still hX hr (by rw [hkk]; simp) (by rw [hkk]; simp) hv hp))
 | heavy =>
  rw [hkk] at hE
  obtain ⟨hw, hh, k0, hk0, hH⟩ := hE
  rw [if_pos (hwant _ hw)]
  have e := I.next hX hr hk0 hH
  subst e
  obtain ⟨⟨c, hc, hcj, hcm⟩, _, qs, h1, ps', hq, hjo, hev⟩ := hH
  obtain ⟨R1, F1, P1⟩ := I.join hX hr.ahead hq hjo
  rw [← heavy_sameB X.P x.o.op hlook] at hev
  have hpos : 1 ≤ (X.C k0).2 := by have := I.nx; have := hX.pos; omega
  have hG := cHeavy_good (P := X.P) (o := x.o) (a := a) (ro := X.ro) hX.G hpos R1 I.T
  rw [hev] at hG
  refine hG _ Q fun σ' v' w1 R' F' hv hn => ?_
  exact hK _ _ _ _ (I.heavy hX hr hkk hp hk0 hc hcj hcm R' F1 F' hv hn P1)
theorem Inv.all (I : Inv X listed σ a w k) (hX : RegOK X) (h : Region.ready .any X.ops listed = []) : ∀ i, i < X.ops.size → lst listed i = true := by
 intro i
 induction i using Nat.strongRecOn with
 | _ i ih =>
  intro hi
  cases hl : lst listed i with
  | true => rfl
  | false =>
   exfalso
   obtain ⟨x, hx⟩ := hX.ent hi
   have hs : i < listed.size := by rw [I.size]; exact hi
   have : i ∈ Region.ready .any X.ops listed := by
    refine mem_ready.2 ⟨?_, x.o, hX.op hx, fun e he hb => ?_⟩
    ·unfold lst at hl
     simpa [hs] using hl
    ·have hlt := (hX.mask hx).1 e (by simpa using he) hb
     exact ih e.on hlt (Nat.lt_trans hlt hi)
   rw [h] at this
   cases this
theorem Inv.any (hX : RegOK X) {Q : Exit → Act → World → Prop} (hQ : ∀ listed σ a w k, Inv X listed σ a w k → (∀ i, i < X.ops.size → lst listed i = true) → Q .normal a w) :
  ∀ (fuel : Nat) (listed : Array Bool) (σ : Sg) (a : Act) (w : World) (k : Nat), Inv X listed σ a w k → (∃ l : List Nat, l.length ≤ fuel ∧ ∀ i, i < X.ops.size → lst listed i = false → i ∈ l) →
   wpAnyIn (FwR X.ro) 0 X.P .any X.ops Q fuel listed a w := by
 intro fuel
 induction fuel with
 | zero =>
  intro listed σ a w k I ⟨l, hl, hall⟩
  have hnil : l = [] := List.eq_nil_of_length_eq_zero (by omega)
  have hr : Region.ready .any X.ops listed = [] := by
   cases hc : Region.ready .any X.ops listed with
   | nil => rfl
   | cons j js =>
    exfalso
    obtain ⟨x, hr⟩ := I.ready hX (j := j) (by rw [hc]; exact List.mem_cons_self ..)
    have := hall j (hX.lt hr.at_) hr.un
    rw [hnil] at this; cases this
  exact ⟨hr, hQ listed σ a w k I (I.all hX hr)⟩
 | succ fuel ih =>
  intro listed σ a w k I ⟨l, hl, hall⟩
  refine ⟨fun hr => hQ listed σ a w k I (I.all hX hr), fun j hj => I.step hX hj fun σ' a' w' k' I' => ih _ σ' a' w' k' I' ⟨l.erase j, ?_, fun i hi hl' => ?_⟩⟩
  ·obtain ⟨x, hr⟩ := I.ready hX hj
   have := hall j (hX.lt hr.at_) hr.un
   rw [List.length_erase_of_mem this]
   omega
  ·obtain ⟨x, hr⟩ := I.ready hX hj
   rw [lst_set (I.sz hX hr)] at hl'
   by_cases e : i = j
   ·rw [if_pos e] at hl'; cases hl'
   ·rw [if_neg e] at hl'
    exact (List.mem_erase_of_ne e).2 (hall i hi hl')
end
end Go.Proofs.YtpnaenbpffhjfaaGreatDoor.Ev

namespace Go.Proofs.YtpnaenbpffhjfaaGreatDoor.Ev
theorem trace_nil (P : Program) (nt base : Nat) (all : List Oper) (r : Rec) (tm : Tr Value) (ms : List Nat) (h : Hp) (nx : Nat) :
  TraceOK P nt base all r tm ms [] [] tm h nx { ps := [], snaps := [], hv := [], lt := [] } :=
 ⟨rfl, fun j e h => by simp at h, fun j e h => by simp at h, rfl, rfl, fun k c h => by simp at h, fun k c h => by simp at h, .nil, ⟨fun p hp => (by cases hp), .nil⟩, fun j e h => by simp at h⟩
theorem masks_get (all : List Oper) {j : Nat} (hj : j < all.length) : ∃ m, (masks all)[j]? = some m := by
 have := (masksF_spec all []).2.2 j _ (List.getElem?_eq_getElem hj)
 simp only [List.length_nil, Nat.zero_add] at this
 exact ⟨_, this⟩
theorem draw_good {P : Program} (hm : P.follows .mixedOrders = true) : DrawGood P := by
 intro nt rid ops r G S ro tm df h nx σ w a s
 show Fut σ h nx w S nt ro _ ((cDrawn P nt ops.toList (statics ops.toList ops.toList (masks ops.toList) 0 [])).f r S tm df h nx)
 cases hst : statics ops.toList ops.toList (masks ops.toList) 0 [] with
 | false => trivial
 | true =>
  show Fut σ h nx w S nt ro _ ((cDraw P nt ops.toList ops.toList (masks ops.toList) 0).f nx r S tm df h (nx + ops.toList.length) { ps := [], snaps := [], hv := [], lt := [] })
  cases hr : (cDraw P nt ops.toList ops.toList (masks ops.toList) 0).f nx r S tm df h (nx + ops.toList.length) { ps := [], snaps := [], hv := [], lt := [] } with
  | no _ _ => trivial
  | ok e tm' df' h' nx' =>
   intro Q hQ
   have hmb : ∀ (j m : Nat), j < ops.toList.length → (masks ops.toList)[j]? = some m → m < 2 ^ j := fun j m hj hjm => by
    obtain ⟨m', h1, h2, _⟩ := statics_spec ops.toList ops.toList (masks ops.toList) 0 [] hst j _ (List.getElem?_eq_getElem hj)
    rw [hjm] at h1; cases h1
    rw [Nat.zero_add] at h2; exact h2
   obtain ⟨es, cs, h2, d2, ps', hlen, T, he, hdf, hj, hc0⟩ := draw_trace (P := P) (nt := nt) (base := nx) (all := ops.toList) (r := r) (tm0 := tm) (ms := masks ops.toList) hmb (fun j hj => masks_get _ hj) ops.toList 0 rfl (Nat.zero_le _) [] [] tm h
    (nx + ops.toList.length) _ S df rfl (trace_nil P nt nx ops.toList r tm (masks ops.toList) h (nx + ops.toList.length)) e tm' df' h' nx' hr
   subst he hdf
   let X : Reg := { P, nt, base := nx, ops, r, tm0 := tm, es, cs, tmn := tm', hn := h2, nxn := nx', dn := d2, σ0 := σ, h0 := h, w0 := w, a0 := a, ro }
   have hX : RegOK X := ⟨T, by rw [hlen]; simp [X], hst, G, s.pos, fun b hb => (s.R.rsv b hb).1⟩
   refine wpIn_region_any hm ?_
   have hl0 : ∀ i, lst (Array.replicate ops.size false) i = false := fun i => by
    unfold lst
    by_cases hi : i < ops.size <;> simp [Array.getD_eq_getD_getElem?, hi]
   -- the beginning
   let rs : Nat → Prop := resOf X (Array.replicate ops.size false)
   have hsize : ops.toList.length = ops.size := Array.length_toList
   have hC0 : X.C 0 = (h, nx + ops.size) := by
    show coreAt cs h2 nx' 0 = _
    rw [hc0, ← hsize]; rfl
   have hR0 : Rel (σ.with rs) h (nx + ops.size) { w with drawn := w.drawn + 1 } := by
    have R := s.R.drawn (w.drawn + 1)
    refine ⟨⟨fun b o hb => ?_, fun b hb => R.new b (by omega), R.fams, R.sep, R.lat, R.mx, fun b hb => ?_, fun g hg => R.gl g hg⟩, R.fz⟩
    ·exact (R.obj b o hb).imp id fun ⟨i, a, c, d⟩ => ⟨i, a, c, fun hl => (d hl).mono (show Sg.sub σ (σ.with rs) from ⟨fun _ _ h => h, fun _ _ h => h⟩)⟩
    ·rcases hb with hb | ⟨i, h1, h2, _⟩
     ·obtain ⟨a1, a2, a3⟩ := s.R.rsv b hb
      exact ⟨by omega, a2, a3⟩
     ·have hi : i < ops.size := h1
      have hb : b = nx + i := h2
      have := s.R.new b (by omega)
      exact ⟨by omega, this.1, this.2⟩
   have I0 : Inv X (Array.replicate ops.size false) (σ.with rs) a { w with drawn := w.drawn + 1 } 0 := by
    refine ⟨by simp [X], fun i e _ hl => (by rw [hl0] at hl; cases hl), Nat.zero_le _, fun k' c _ => ⟨fun hl => (by rw [hl0] at hl; cases hl), fun hl => (by omega)⟩, by rw [hC0]; exact hR0, ?_, by rw [hC0]; exact Nat.le_refl _, fun b => Iff.rfl, ?_, rfl, ?_, ?_⟩
    ·rw [hC0]
     exact ⟨⟨⟨fun _ _ h => h, fun _ _ h => h⟩, rfl⟩, rfl, rfl, rfl, Nat.le_refl _, fun _ h => .inl h, fun _ h => .inl h, fun _ _ _ => rfl, fun _ _ h => .inl h⟩
    ·refine ((s.T.keep rs)).same fun t => ?_
     exact tmF_none fun j e _ _ => hl0 _
    ·rintro i ao ⟨_, hl, _⟩; rw [hl0] at hl; cases hl
    ·rintro i ao i' ao' ⟨_, hl, _⟩; rw [hl0] at hl; cases hl
   refine Inv.any hX (fun listed σ2 a2 w2 k I hall => ?_) ops.size _ _ _ _ _ I0 ⟨List.range ops.size, by simp, fun i hi _ => List.mem_range.2 hi⟩
   -- the end
   have hk : k = cs.length := by
    rcases Nat.lt_or_eq_of_le I.kle with h1 | h1
    ·exfalso
     have h1 : k < cs.length := h1
     have hc : X.cs[k]? = some cs[k] := List.getElem?_eq_getElem h1
     obtain ⟨y, y1, _⟩ := hX.T.hvk k _ hc
     have := (I.kk k _ hc).1 (hall _ (hX.lt y1))
     omega
    ·exact h1
   subst hk
   have hCn : X.C cs.length = (h2, nx') := coreAt_end cs h2 nx'
   have hlall : ∀ b, (2 ^ ops.toList.length - 1).testBit b = true → lst listed b = true := fun b hb => by
    rw [Nat.testBit_two_pow_sub_one] at hb
    exact hall b (by have := of_decide_eq_true hb; rw [← hsize]; exact this)
   obtain ⟨R1, F1, _⟩ := I.join hX hlall (qs := d2.ps) T.pend (h1 := h') (ps' := ps') (by rw [hCn]; exact hj)
   rw [hCn] at R1
   have hTn : TR σ2 nt tm' a2.tmps := by
    refine I.T.same fun t => ?_
    rw [T.tm, hlen, hsize]
    unfold tmA
    rw [tmF_same (lst listed) (fun j => Nat.blt j ops.size) es 0 tm fun j hj => ?_]
    rw [Nat.zero_add]
    have hj' : j < ops.size := by rw [hlen, hsize] at hj; exact hj
    have h1 : Nat.blt j ops.size = true := blt_true.2 hj'
    rw [h1]; exact hall j hj'
   have hres : ∀ b, σ.res b → σ2.res b := fun b hb => (I.res b).2 (.inl hb)
   have hF : Fwd σ h w (σ2.with σ.res) h' w2 := Fwd.keep (σ := σ) (rs := σ.res) F1
   have hn : nx ≤ nx' := by have := I.nx; rw [hCn] at this; have h3 : nx + ops.size ≤ nx' := this; omega
   refine hQ (σ2.with σ.res) a2 w2 ⟨R1.keep hres, Nat.le_trans s.pos hn, s.snt, hTn.keep _, ?_, s.ro.mono hF.sub.fn⟩ hF hn
   rw [I.dfr]
   exact s.D.mono hF.sub.fn
end Go.Proofs.YtpnaenbpffhjfaaGreatDoor.Ev

namespace Go.Proofs.YtpnaenbpffhjfaaGreatDoor.Ev
def rowOf (e : Ext) : Array Value → Sem Value := match e with
 | .indexByte => Extern.BytealgIndexByte.indexByte
 | .count => Extern.BytealgCount.count
 | .compare => Extern.BytealgCompare.compare
 | .same => Extern.AbiNoEscape.same
 | .nothing => fun _ => pure (.tuple #[])
 | .race n => Extern.Race.marked (match n with | 0 => .acquire | 1 => .release | _ => .releaseMerge)
 | .quiet n => match n with
  | 0 => fun _ => do mark .disable; pure Extern.Race.none_
  | _ => fun _ => do mark .enable; pure Extern.Race.none_
 | .astore => Extern.Atomic.storeT
 | .nozero t _ => Extern.BytealgMakeNoZero.makeNoZero #[] #[t]
 | .aload k => Extern.Atomic.loadT (.int k)
 | .aswap k => Extern.Atomic.swapT (.int k)
 | .aadd k => Extern.Atomic.update (Op.intArith .add) k true
 | .acas k => Extern.Atomic.casT (.int k)
def ExtFine (P : Program) (e : Ext) : Prop := match e with
 | .nozero t el => P.underlying t = some (.slice el)
 | _ => True
def ExtOK (E : Env) : Prop := ∀ (g : FuncId) (fn : Func) (e : Ext), E.P.funcs[g]? = some fn → E.ext g = some e →
 (fn.name == "runtime.NumGoroutine") = false ∧ Extern.findNext fn = none ∧ Extern.find fn = some (rowOf e) ∧ ExtFine E.P e
theorem ltB_cmp : ∀ (a b : List UInt8), ltB a b = decide (Lib.compareBytes a b < 0)
 | [], [] => rfl
 | [], _ :: _ => rfl
 | _ :: _, [] => rfl
 | x :: a, y :: b => by
  have ih := ltB_cmp a b
  show (match Nat.blt x.toNat y.toNat with | true => true | false => match Nat.beq x.toNat y.toNat with | true => ltB a b | false => false) = _
  unfold Lib.compareBytes
  cases h1 : Nat.blt x.toNat y.toNat with
  | true => 
   have h2 : x < y := UInt8.lt_iff_toNat_lt.2 (blt_true.1 h1)
   rw [if_pos h2]; rfl
  | false =>
   have h2 : ¬ x < y := fun h => by rw [blt_true.2 (UInt8.lt_iff_toNat_lt.1 h)] at h1; cases h1
   rw [if_neg h2]
   cases h3 : Nat.beq x.toNat y.toNat with
   | true =>
    have h4 : x = y := UInt8.toNat_inj.1 (beq_true.1 h3)
    have h5 : ¬ y < x := by rw [h4]; exact UInt8.lt_irrefl y
    rw [if_neg h5]; exact ih
   | false =>
    have h4 : y < x := by
     have := beq_false.1 h3
     rw [UInt8.lt_iff_toNat_lt] at h2 ⊢
     omega
    rw [if_pos h4]; rfl
theorem compareBytes_vals : ∀ (a b : List UInt8), Lib.compareBytes a b = -1 ∨ Lib.compareBytes a b = 0 ∨ Lib.compareBytes a b = 1
 | [], [] => .inr (.inl rfl)
 | [], _ :: _ => .inl rfl
 | _ :: _, [] => .inr (.inr rfl)
 | x :: a, y :: b => by
  unfold Lib.compareBytes
  split
  ·exact .inl rfl
  ·split
   ·exact .inr (.inr rfl)
   ·exact compareBytes_vals a b
theorem compareBytes_swap : ∀ (a b : List UInt8), Lib.compareBytes b a = - Lib.compareBytes a b
 | [], [] => rfl
 | [], _ :: _ => rfl
 | _ :: _, [] => rfl
 | x :: a, y :: b => by
  unfold Lib.compareBytes
  by_cases h1 : x < y
  ·have h2 : ¬ y < x := by rw [UInt8.lt_iff_toNat_lt] at h1 ⊢; omega
   simp only [h1, h2, if_true, if_false]; rfl
  ·by_cases h2 : y < x
   ·simp only [h1, h2, if_true, if_false]
   ·simp only [h1, h2, if_false]
    exact compareBytes_swap a b
theorem cmpB_eq (a b : List UInt8) : cmpB a b = Lib.compareBytes a b := by
 unfold cmpB
 rw [ltB_cmp, ltB_cmp, compareBytes_swap a b]
 rcases compareBytes_vals a b with h | h | h <;> rw [h] <;> rfl
theorem findB_eq (c : UInt8) : ∀ (l : List UInt8) (i : Nat), findB c.toNat l i = if Lib.indexByte l c = -1 then -1 else Lib.indexByte l c + i
 | [], i => rfl
 | x :: l, i => by
  show (match Nat.beq x.toNat c.toNat with | true => Int.ofNat i | false => findB c.toNat l (i + 1)) = _
  unfold Lib.indexByte
  have hge := Lib.indexByte_ge l c
  cases h : Nat.beq x.toNat c.toNat with
  | true =>
   have h4 : x = c := UInt8.toNat_inj.1 (beq_true.1 h)
   subst h4
   simp
  | false =>
   have h4 : (x == c) = false := by
    have := beq_false.1 h
    simp only [beq_eq_false_iff_ne, ne_eq]
    intro e; exact this (by rw [e])
   rw [h4]
   simp only [Bool.false_eq_true, if_false]
   rw [findB_eq c l (i + 1)]
   by_cases h5 : Lib.indexByte l c = -1
   ·simp [h5]
   ·have h6 : (Lib.indexByte l c == -1) = false := by simpa using h5
    rw [if_neg h5, h6]
    simp only [Bool.false_eq_true, if_false]
    rw [if_neg (by omega)]
    omega
theorem countB_eq (c : UInt8) : ∀ (l : List UInt8) (n : Nat), countB c.toNat l n = n + l.count c
 | [], n => rfl
 | x :: l, n => by
  show (match Nat.beq x.toNat c.toNat with | true => countB c.toNat l (n + 1) | false => countB c.toNat l n) = _
  rw [List.count_cons]
  cases h : Nat.beq x.toNat c.toNat with
  | true =>
   have h4 : x = c := UInt8.toNat_inj.1 (beq_true.1 h)
   subst h4
   simp only
   rw [countB_eq x l (n + 1)]
   simp; omega
  | false =>
   have h4 : (x == c) = false := by
    have := beq_false.1 h
    simp only [beq_eq_false_iff_ne, ne_eq]
    intro e; exact this (by rw [e])
   simp only
   rw [countB_eq c l n, h4]
   simp
section
variable {σ : Sg} {h : Hp} {nx : Nat} {w : World} {P : Program}
theorem bytesOf_good (R : Rel σ h nx w) {v v' : Value} {l : List UInt8} (e : bytesOf v h = some l) (hv : VR σ v v') : (Extern.Bytes.bytesOf v').run P w = .ok ⟨⟨l⟩⟩ w := by
 cases v with
 | string s =>
  cases e
  rw [hv.string]
  rfl
 | slice a len c =>
  cases a with
  | none =>
   cases e
   rw [hv.nilslice.2.2]
   rfl
  | some ad =>
   change (match firstS ad h len with | some l => byteL l | none => none) = some l at e
   cases hf : firstS ad h len with
   | none => rw [hf] at e; cases e
   | some vs =>
    rw [hf] at e
    unfold firstS at hf
    cases hb : Nat.beq len 0 with
    | true =>
     rw [hb] at hf
     cases hf
     cases e
     have := beq_true.1 hb
     subst this
     rcases hv.sliceI with ⟨_, i, h1, h2⟩ | ⟨e, i, cap, _, _, h1, _, _, _, h2⟩ | ⟨_, h0, ⟨a', cap, h2⟩, _⟩ <;> rw [h2] <;> rfl
    | false =>
     rw [hb] at hf
     have main : ∀ i cap, σ ad.block = some i → v' = .slice (some ⟨i.r, i.shift + ad.off, none⟩) len cap → (Extern.Bytes.bytesOf v').run P w = .ok ⟨⟨l⟩⟩ w := by
      intro i cap hi hv'
      obtain ⟨t, size, root, hg, hsz, hl, hm⟩ := loadC_some hf
      obtain ⟨cs, el, fr, hc, h1, h2, h3, h4⟩ := R.cells hg hl hi
      obtain ⟨hlen, hk⟩ := Tr.getMany_some t len ad.off vs hm
      obtain ⟨ns, e1, e2⟩ := byteL_ns vs l e
      have hnl : ns.length = len := by rw [← hlen, e1]; simp
      have hcell : ∀ (j : Nat) (x : Int), ns[j]? = some x → w.cell? (Addr.add ⟨i.r, i.shift + ad.off, none⟩ j) = some (.int .u8 x) := by
       intro j x hx
       have hj : j < len := by rw [← hnl]; exact (List.getElem?_eq_some_iff.1 hx).1
       have hvj : vs[j]? = some (.int .u8 x) := by rw [e1, List.getElem?_map, hx]; rfl
       obtain ⟨u, a, c⟩ := h4 (ad.off + j) (.int .u8 x) (by omega) (by rw [hk j hj, hvj])
       rw [addr_add, cell_at hc, show i.shift + ad.off + j = i.shift + (ad.off + j) by omega, a, c.int]
      have := Lib.run_loadBytesX (P := P) w ns ⟨i.r, i.shift + ad.off, none⟩ .empty hcell
      rw [hv', e2]
      show (Extern.Bytes.loadBytes ⟨i.r, i.shift + ad.off, none⟩ len .empty).run P w = _
      rw [← hnl, this]
      have h9 : ByteArray.empty.data ++ (Lib.bytesOf ns).toArray = (⟨ns.map fun n => UInt8.ofNat n.toNat⟩ : Array UInt8) := by
       apply Array.ext'
       rw [Array.toList_append]
       rfl
      rw [h9]
     rcases hv.sliceI with ⟨_, i, h1, h2⟩ | ⟨e, i, cap, _, _, h1, _, _, _, h2⟩ | ⟨_, h0, _⟩
     ·exact main i _ h1 h2
     ·exact main i _ h1 h2
     ·exact absurd h0 (beq_false.1 hb)
 | func fn fa fb =>
  change (match fzO (.func fn fa fb) with | some rows => byteL rows | none => none) = some l at e
  cases hf : fzO (.func fn fa fb) with
  | none => rw [hf] at e; cases e
  | some rows =>
   rw [hf] at e
   obtain ⟨s7, b7, hv7⟩ := fzO_some hf
   rw [hv7] at hv
   rcases hv.fzI.slI with ⟨h0, a2, cap, hX, _⟩ | ⟨cs', r, o2, e2', cap, hR, hl, he2, hc, hX⟩
   ·subst h0
    cases e
    rw [hX]
    cases a2 <;> rfl
   ·rw [byteL_flatC e] at hl
    have hl' := byteL_flat e (hl.vr (σ := σ) fun _ _ h => h)
    subst hl'
    obtain ⟨ns, e1, e2⟩ := byteL_ns cs' l e
    obtain ⟨arr, el, fr, hc1, hc2, hc3⟩ := hR
    have hw := (R.fz r _ hc1).1
    have hnl : ns.length = cs'.length := by rw [e1]; simp
    have hcell : ∀ (j : Nat) (x : Int), ns[j]? = some x → w.cell? (Addr.add ⟨r, o2, none⟩ j) = some (.int .u8 x) := by
     intro j x hx
     rw [addr_add, cell_at hw]
     exact hc3 j _ (by rw [e1, List.getElem?_map, hx]; rfl)
    have := Lib.run_loadBytesX (P := P) w ns ⟨r, o2, none⟩ .empty hcell
    rw [hX, e2]
    show (Extern.Bytes.loadBytes ⟨r, o2, none⟩ cs'.length .empty).run P w = _
    rw [← hnl, this]
    have h9 : ByteArray.empty.data ++ (Lib.bytesOf ns).toArray = (⟨ns.map fun n => UInt8.ofNat n.toNat⟩ : Array UInt8) := by
     apply Array.ext'
     rw [Array.toList_append]
     rfl
    rw [h9]
 | _ => cases e
theorem byteO_rel {v v' : Value} {c : UInt8} (e : byteO v = some c) (hv : VR σ v v') : ∃ n : Nat, v' = .int .u8 (n : Int) ∧ c = UInt8.ofNat n := by
 unfold byteO at e
 split at e
 ·rename_i n; cases e; exact ⟨n, hv.int, rfl⟩
 ·cases e
theorem asByte_run (n : Nat) : (Extern.Bytes.asByte (.int .u8 (n : Int))).run P w = .ok (UInt8.ofNat n) w := rfl
theorem ptrO_rel {x x' : Value} {ad : Addr} (e : ptrO x = some ad) (hv : VR σ x x') : ∃ i, σ ad.block = some i ∧ x' = .pointer (some ⟨i.r, i.shift + ad.off, none⟩) := by
 unfold ptrO at e
 split at e
 ·rename_i a
  split at e
  ·cases e
   exact hv.ptrI.2
  ·cases e
 ·cases e
theorem evExt_good (e : Ext) (R : Rel σ h nx w) {args args' : List Value} (hv : VRL σ args args') {v : Value} (hx : evExt e args h = .val v) : ∃ v', (rowOf e ⟨args'⟩).run P w = .ok v' w ∧ VR σ v v' := by
 cases e with
 | nozero t el => cases hx
 | nothing => cases hx; exact ⟨undef, rfl, VR.undef⟩
 | quiet n =>
  cases hx
  cases n with
  | zero => exact ⟨undef, rfl, VR.undef⟩
  | succ n => exact ⟨undef, rfl, VR.undef⟩
 | race n =>
  cases hv with
  | nil => cases hx
  | cons x x' l l' h1 hl =>
   change (match ptrO x with | some _ => L.val undef | none => L.no) = .val v at hx
   cases hp : ptrO x with
   | none => rw [hp] at hx; cases hx
   | some ad =>
    rw [hp] at hx
    cases hx
    obtain ⟨i, _, hx'⟩ := ptrO_rel hp h1
    subst hx'
    exact ⟨undef, rfl, VR.undef⟩
 | astore => cases hx
 | aload k => cases hx
 | aswap k => cases hx
 | aadd k => cases hx
 | acas k => cases hx
 | same =>
  cases hv with
  | nil => cases hx
  | cons x x' l l' h1 hl =>
   cases hl with
   | nil => cases hx; exact ⟨x', rfl, h1⟩
   | cons _ _ _ _ _ _ => cases hx
 | indexByte =>
  cases hv with
  | nil => cases hx
  | cons x x' l l' h1 hl =>
   cases hl with
   | nil => cases hx
   | cons y y' l l' h2 hl =>
    cases hl with
    | cons _ _ _ _ _ _ => cases hx
    | nil =>
     change extIB (bytesOf x h) (byteO y) = .val v at hx
     unfold extIB at hx
     split at hx
     ·rename_i bs c hbs hc
      cases hx
      obtain ⟨n, hy, hcn⟩ := byteO_rel hc h2
      subst hy hcn
      refine ⟨.int .i64 (firstIdx ⟨⟨bs⟩⟩ (UInt8.ofNat n)), ?_, ?_⟩
      ·change Sem.run P (do
        let b ← Extern.Bytes.bytesOf x'
        let c' ← Extern.Bytes.asByte (.int .u8 (n : Int))
        match (List.range b.size).find? fun i => b[i]! == c' with
        | some i => pure (goInt i)
        | none => pure (goInt (-1))) w = _
       rw [run_b (bytesOf_good R hbs h1), run_b (asByte_run n)]
       unfold firstIdx
       cases (List.range (ByteArray.size ⟨⟨bs⟩⟩)).find? fun i => (⟨⟨bs⟩⟩ : ByteArray)[i]! == UInt8.ofNat n <;> rfl
      ·rw [findB_eq, Lib.firstIdx_eq]
       have : (if Lib.indexByte bs (UInt8.ofNat n) = -1 then -1 else Lib.indexByte bs (UInt8.ofNat n) + ((0 : Nat) : Int)) = Lib.indexByte bs (UInt8.ofNat n) := by
        split <;> simp_all
       rw [this]
       exact VR.i _ _
     ·cases hx
 | count =>
  cases hv with
  | nil => cases hx
  | cons x x' l l' h1 hl =>
   cases hl with
   | nil => cases hx
   | cons y y' l l' h2 hl =>
    cases hl with
    | cons _ _ _ _ _ _ => cases hx
    | nil =>
     change extCt (bytesOf x h) (byteO y) = .val v at hx
     unfold extCt at hx
     split at hx
     ·rename_i bs c hbs hc
      cases hx
      obtain ⟨n, hy, hcn⟩ := byteO_rel hc h2
      subst hy hcn
      refine ⟨.int .i64 ((bs.count (UInt8.ofNat n) : Nat) : Int), ?_, ?_⟩
      ·change Sem.run P (do
        let b ← Extern.Bytes.bytesOf x'
        let c' ← Extern.Bytes.asByte (.int .u8 (n : Int))
        pure (goInt (b.foldl (fun n x => if x == c' then n + 1 else n) (0 : Nat)))) w = _
       rw [run_b (bytesOf_good R hbs h1), run_b (asByte_run n)]
       rw [Lib.foldl_data, Lib.count_foldl]
       simp [goInt, Lib.countByte]
      ·rw [countB_eq, mkPos_eq, Nat.zero_add]
       exact VR.i _ _
     ·cases hx
 | compare =>
  cases hv with
  | nil => cases hx
  | cons x x' l l' h1 hl =>
   cases hl with
   | nil => cases hx
   | cons y y' l l' h2 hl =>
    cases hl with
    | cons _ _ _ _ _ _ => cases hx
    | nil =>
     change extCmp (bytesOf x h) (bytesOf y h) = .val v at hx
     unfold extCmp at hx
     split at hx
     ·rename_i bs cs hbs hc
      cases hx
      refine ⟨.int .i64 (Lib.compareBytes bs cs), ?_, ?_⟩
      ·change Sem.run P (do pure (goInt (Extern.BytealgCompare.cmp (← Extern.Bytes.bytesOf x') (← Extern.Bytes.bytesOf y')))) w = _
       rw [run_b (bytesOf_good R hbs h1), run_b (bytesOf_good R hc h2), Lib.cmp_eq]
       rfl
      ·rw [cmpB_eq]
       exact VR.i _ _
     ·cases hx
theorem load_mode {ad : Addr} {v : Value} (hc : w.cell? ad = some v) : (load ad .atomic).run P w = .ok v w := by simp [load, Sem.run, hc]
theorem store_mode {ad : Addr} {u v : Value} (hc : w.cell? ad = some u) : (store ad v .atomic).run P w = (store ad v).run P w := by
 cases v <;> simp [store, Sem.run, hc]
theorem cell_good (R : Rel σ h nx w) {b off : Nat} {v : Value} (e : loadC h b off 1 = some [v]) {i : BI} (hi : σ b = some i) : ∃ v', w.cell? ⟨i.r, i.shift + off, none⟩ = some v' ∧ VR σ v v' := by
 obtain ⟨t, size, root, hg, hsz, hl, hm⟩ := loadC_some e
 obtain ⟨cs, el, fr, hc, h1, h2, h3, h4⟩ := R.cells hg hl hi
 obtain ⟨hlen, hk⟩ := Tr.getMany_some t 1 off [v] hm
 obtain ⟨v', a, c⟩ := h4 off v (by omega) (by have := hk 0 (by omega); simpa using this)
 exact ⟨v', by rw [cell_at hc, a], c⟩
theorem cellI_some {k : IntKind} {l : Option (List Value)} {n : Int} (e : cellI k l = some n) : l = some [.int k n] := by
 unfold cellI at e
 split at e
 ·split at e
  ·rename_i hk; cases e; rw [sameK_eq.1 hk]
  ·cases e
 ·cases e
theorem store_good (R : Rel σ h nx w) {b off : Nat} {v v' : Value} {h' : Hp} (e : storeC h b off [v] = .ok h') {i : BI} (hi : σ b = some i) (hv : VR σ v v') :
  (∃ u, w.cell? ⟨i.r, i.shift + off, none⟩ = some u) ∧ w.frozen? ⟨i.r, i.shift + off, none⟩ = false ∧ ∃ w1, (store ⟨i.r, i.shift + off, none⟩ v').run P w = .ok () w1 ∧ Rel σ h' nx w1 ∧ Fwd σ h w σ h' w1 := by
 obtain ⟨t, size, root, hg, hsz, hcv, hroot⟩ := storeC_some e
 have hlb : live h b (.cells t size root) := by
  show liveB h b root = true
  rcases storeRoot_some hroot with ⟨h0, _⟩ | ⟨h0, al, ha, hle, _⟩
  ·subst h0; rfl
  ·rw [liveB_ne h0, ha]; exact ble_true.2 hle
 obtain ⟨cs, el, fr, hc, h1, h2, h3, h4⟩ := R.cells hg hlb hi
 simp only [List.length_singleton] at hsz
 refine ⟨⟨cs[i.shift + off]'(by omega), by rw [cell_at hc]; simp⟩, ?_, ?_⟩
 ·rw [frozen_at hc]
  have := h3 (i.shift + off) (by omega)
  simp only [Bool.and_eq_false_iff, decide_eq_false_iff_not]
  omega
 ·obtain ⟨w1, hr, R1, F1⟩ := store_sound P R e hi (.cons _ _ _ _ hv .nil)
  refine ⟨w1, ?_, R1, F1⟩
  have he : (storeCells ⟨i.r, i.shift + off, none⟩ [v']).run P w = ((store ⟨i.r, i.shift + off, none⟩ v').run P w).andThen fun _ w => .ok () w := by
   show (Sem.bind (store (Addr.add ⟨i.r, i.shift + off, none⟩ 0) v') fun _ => storeCells ⟨i.r, i.shift + off, none⟩ [] 1).run P w = _
   have hb : (Sem.bind (store (Addr.add ⟨i.r, i.shift + off, none⟩ 0) v') fun _ => storeCells ⟨i.r, i.shift + off, none⟩ [] 1).run P w = _ := Sem.run_bind (P := P) (w := w) (store (Addr.add ⟨i.r, i.shift + off, none⟩ 0) v') (fun _ => storeCells ⟨i.r, i.shift + off, none⟩ [] 1)
   rw [hb, addr_add]
   rfl
  rw [he] at hr
  cases hs : (store ⟨i.r, i.shift + off, none⟩ v').run P w with
  | ok u w2 => rw [hs] at hr; simp only [Result.andThen] at hr; cases hr; rfl
  | halt x w2 => rw [hs] at hr; cases hr
theorem asAddr_run (ad : Addr) : (asAddr (.pointer (some ad))).run P w = .ok ad w := rfl
theorem read_good {k : IntKind} {n : Int} {ad : Addr} (hc : w.cell? ad = some (.int k n)) : (Extern.Atomic.read (.int k) ad).run P w = .ok (.int k n) w := by
 unfold Extern.Atomic.read
 rw [run_b (load_mode hc)]
 simp only [if_true]
 rfl
theorem digits_size : ∀ (n t : Nat) (acc : Array Value), (Extern.BytealgMakeNoZero.digits n t acc).size = acc.size + n
 | 0, _, _ => rfl
 | n + 1, t, acc => by
  show (Extern.BytealgMakeNoZero.digits n (t / 256) _).size = _
  rw [digits_size n, Array.size_push]; omega
theorem VRL.bads {σ : Sg} : ∀ (l : List Value), VRL σ (repL l.length [poison]) l
 | [] => .nil
 | v :: l => .cons _ _ _ _ (.bad 0 v) (VRL.bads l)
theorem nozero_good {t el : Nat} (hel : P.underlying t = some (.slice el)) (hpos : 1 ≤ nx) (R : Rel σ h nx w) {args args' : List Value} (hv : VRL σ args args') {v : Value} {h' : Hp} {nx' : Nat} (hx : evExtH (.nozero t el) args h nx = .ok v h' nx') :
  ∃ v' w1 σ', (rowOf (.nozero t el) ⟨args'⟩).run P w = .ok v' w1 ∧ Rel σ' h' nx' w1 ∧ Fwd σ h w σ' h' w1 ∧ VR σ' v v' ∧ nx ≤ nx' := by
 cases hv with
 | nil => cases hx
 | cons x x' l l' h1 hl =>
  cases hl with
  | cons _ _ _ _ _ _ => cases hx
  | nil =>
   cases x <;> first | (cases hx; done) | skip
   rename_i k m
   cases k <;> first | (cases hx; done) | skip
   cases m with
   | negSucc _ => cases hx
   | ofNat n =>
    obtain rfl := h1.int
    change (match Nat.ble n 10000 with | true => freshA h nx el 1 n (repL n [poison]) | false => H.no "MakeNoZero: size" "") = _ at hx
    cases hb : Nat.ble n 10000 with
    | false => rw [hb] at hx; cases hx
    | true =>
     rw [hb] at hx
     have hn := ble_true.1 hb
     let c2 := (Question.appendCap n 0 el).cut (w.tape w.drawn (.appendCap n 0 el))
     have hc2 : n ≤ c2 := Nat.le_add_right _ _
     let w1 : World := { w with drawn := w.drawn + 1 }
     let by_ := (Question.extern "internal/bytealg.MakeNoZero.bytes" 0).cut (w1.tape w1.drawn (.extern "internal/bytealg.MakeNoZero.bytes" 0))
     let ds := (Extern.BytealgMakeNoZero.digits c2 by_ #[]).toList
     have hds : ds.length = c2 := by
      show (Extern.BytealgMakeNoZero.digits c2 by_ #[]).toList.length = c2
      rw [Array.length_toList, digits_size]; simp
     have hlen : (ds.take n).length = n := by rw [List.length_take, hds]; omega
     have hvr : VRL σ (repL n [poison]) (ds.take n) := by
      have := VRL.bads (σ := σ) (ds.take n)
      rw [hlen] at this; exact this
     obtain ⟨g1, σ', g2, g3, g4⟩ := fresh_good (w := w1) (R.drawn (w.drawn + 1)) hpos hvr (el := el) (m := n) (c2 := c2) (sz := 1) (rest := ds.drop n) (by rw [repL_length]; simp) (by rw [List.length_drop, hds, Nat.mul_one]) hc2 (Nat.le_refl _) hx
     refine ⟨_, _, σ', ?_, g2, ⟨g3.sub, g3.os, g3.tape, g3.output, g3.size, g3.image, g3.imt, g3.frame, g3.fr⟩, g4, g1⟩
     have hnot : ¬ ((decide ((Int.ofNat n) < 0) || decide ((Int.ofNat n) > 2 ^ 48)) = true) := by
      simp only [Bool.or_eq_true, decide_eq_true_eq, not_or]
      constructor
      ·intro h; have : (0 : Int) ≤ Int.ofNat n := Int.natCast_nonneg n; omega
      ·intro h; have : (Int.ofNat n : Int) = (n : Int) := rfl; omega
     show (Extern.BytealgMakeNoZero.makeNoZero #[] #[t] #[.int .i64 (.ofNat n)]).run P w = _
     refine (run_b (s := underlying t) (run_und hel)).trans ?_
     show Sem.run P (if _ then _ else _) w = _
     rw [if_neg hnot]
     have hc1 : (choose (.appendCap (Int.ofNat n).toNat 0 el)).run P w = .ok c2 w1 := rfl
     have hc3 : (choose (.extern "internal/bytealg.MakeNoZero.bytes" 0)).run P w1 = .ok by_ { w1 with drawn := w1.drawn + 1 } := rfl
     rw [run_b hc1, run_b (run_askRoom _), run_b hc3]
     have hrow : (newRow el (Extern.BytealgMakeNoZero.digits c2 by_ #[])).run P { w1 with drawn := w1.drawn + 1 } =
       .ok ⟨w.heap.size, 0, none⟩ { w1 with drawn := w1.drawn + 1, heap := w1.heap.push (.cells (ds.take n ++ ds.drop n).toArray el) } := by
      rw [List.take_append_drop]
      rfl
     rw [run_b hrow]
     rfl
theorem evExtH_good (e : Ext) (hF : ExtFine P e) (hpos : 1 ≤ nx) (R : Rel σ h nx w) {args args' : List Value} (hv : VRL σ args args') {v : Value} {h' : Hp} {nx' : Nat} (hx : evExtH e args h nx = .ok v h' nx') :
  ∃ v' w1 σ', (rowOf e ⟨args'⟩).run P w = .ok v' w1 ∧ Rel σ' h' nx' w1 ∧ Fwd σ h w σ' h' w1 ∧ VR σ' v v' ∧ nx ≤ nx' := by
 have light : extLight (evExt e args h) h nx = .ok v h' nx' → ∃ v' w1 σ', (rowOf e ⟨args'⟩).run P w = .ok v' w1 ∧ Rel σ' h' nx' w1 ∧ Fwd σ h w σ' h' w1 ∧ VR σ' v v' ∧ nx ≤ nx' := by
  intro hl
  cases hev : evExt e args h with
  | no => rw [hev] at hl; cases hl
  | mk _ _ => rw [hev] at hl; cases hl
  | val u =>
   rw [hev] at hl
   cases hl
   obtain ⟨v', h1, h2⟩ := evExt_good (P := P) e R hv hev
   exact ⟨v', w, σ, h1, R, Fwd.refl _ _ _, h2, Nat.le_refl _⟩
 cases e with
 | nozero t el => exact nozero_good hF hpos R hv hx
 | indexByte => exact light hx
 | count => exact light hx
 | compare => exact light hx
 | same => exact light hx
 | nothing => exact light hx
 | race n => exact light hx
 | quiet n => exact light hx
 | aload k =>
  cases hv with
  | nil => cases hx
  | cons p p' l l' h1 hl =>
   cases hl with
   | cons _ _ _ _ _ _ => cases hx
   | nil =>
    change atP (ptrO p) (fun a => atLoad k a h nx) = _ at hx
    cases hp : ptrO p with
    | none => rw [hp] at hx; cases hx
    | some ad =>
     rw [hp] at hx
     change (match cellI k (loadC h ad.block ad.off 1) with | some n => H.ok (.int k n) h nx | none => H.no "atomic" "") = _ at hx
     obtain ⟨i, hi, hp'⟩ := ptrO_rel hp h1
     subst hp'
     cases hc : cellI k (loadC h ad.block ad.off 1) with
     | none => rw [hc] at hx; cases hx
     | some n =>
      rw [hc] at hx
      cases hx
      obtain ⟨u, hcell, hu⟩ := cell_good R (cellI_some hc) hi
      have := hu.int
      subst this
      refine ⟨.int k n, w, σ, ?_, R, Fwd.refl _ _ _, VR.i _ _, Nat.le_refl _⟩
      show (Extern.Atomic.loadT (.int k) #[.pointer (some ⟨i.r, i.shift + ad.off, none⟩)]).run P w = _
      refine (run_b (asAddr_run _)).trans ?_
      exact read_good hcell
 | astore =>
  cases hv with
  | nil => cases hx
  | cons p p' l l' h1 hl =>
   cases hl with
   | nil => cases hx
   | cons y y' l l' h2 hl =>
    cases hl with
    | cons _ _ _ _ _ _ => cases hx
    | nil =>
     change atP (ptrO p) (fun a => storedA (storeC h a.block a.off [y]) undef nx) = _ at hx
     cases hp : ptrO p with
     | none => rw [hp] at hx; cases hx
     | some ad =>
      rw [hp] at hx
      obtain ⟨i, hi, hp'⟩ := ptrO_rel hp h1
      subst hp'
      obtain ⟨s1, s2, s3⟩ := storedA_ok hx
      subst s2 s3
      obtain ⟨⟨u, hcell⟩, hfr, w1, hr, R1, F1⟩ := store_good (P := P) R s1 hi h2
      refine ⟨undef, w1, σ, ?_, R1, F1, VR.undef, Nat.le_refl _⟩
      show (Extern.Atomic.storeT #[.pointer (some ⟨i.r, i.shift + ad.off, none⟩), y']).run P w = _
      refine (run_b (asAddr_run _)).trans ?_
      refine (run_b ((store_mode hcell).trans hr)).trans ?_
      rfl
 | aswap k =>
  cases hv with
  | nil => cases hx
  | cons p p' l l' h1 hl =>
   cases hl with
   | nil => cases hx
   | cons y y' l l' h2 hl =>
    cases hl with
    | cons _ _ _ _ _ _ => cases hx
    | nil =>
     change atP (ptrO p) (fun a => atSwap k a y h nx) = _ at hx
     cases hp : ptrO p with
     | none => rw [hp] at hx; cases hx
     | some ad =>
      rw [hp] at hx
      obtain ⟨i, hi, hp'⟩ := ptrO_rel hp h1
      subst hp'
      change (match cellI k (loadC h ad.block ad.off 1) with | some n => storedA (storeC h ad.block ad.off [y]) (.int k n) nx | none => H.no "atomic" "") = _ at hx
      cases hc : cellI k (loadC h ad.block ad.off 1) with
      | none => rw [hc] at hx; cases hx
      | some n =>
       rw [hc] at hx
       obtain ⟨u, hcell, hu⟩ := cell_good R (cellI_some hc) hi
       have := hu.int
       subst this
       obtain ⟨s1, s2, s3⟩ := storedA_ok hx
       subst s2 s3
       obtain ⟨_, hfr, w1, hr, R1, F1⟩ := store_good (P := P) R s1 hi h2
       refine ⟨.int k n, w1, σ, ?_, R1, F1, VR.i _ _, Nat.le_refl _⟩
       show (Extern.Atomic.swapT (.int k) #[.pointer (some ⟨i.r, i.shift + ad.off, none⟩), y']).run P w = _
       refine (run_b (asAddr_run _)).trans ?_
       refine (run_b (read_good hcell)).trans ?_
       refine (run_b ((store_mode hcell).trans hr)).trans ?_
       rfl
 | aadd k =>
  cases hv with
  | nil => cases hx
  | cons p p' l l' h1 hl =>
   cases hl with
   | nil => cases hx
   | cons y y' l l' h2 hl =>
    cases hl with
    | cons _ _ _ _ _ _ => cases hx
    | nil =>
     change atP (ptrO p) (fun a => atAdd k a (intO y) h nx) = _ at hx
     cases hp : ptrO p with
     | none => rw [hp] at hx; cases hx
     | some ad =>
      rw [hp] at hx
      obtain ⟨i, hi, hp'⟩ := ptrO_rel hp h1
      subst hp'
      change (match cellI k (loadC h ad.block ad.off 1), intO y with | some n, some y => storedA (storeC h ad.block ad.off [wrapV k (addI n y)]) (wrapV k (addI n y)) nx | _, _ => H.no "atomic" "") = _ at hx
      cases hc : cellI k (loadC h ad.block ad.off 1) with
      | none => rw [hc] at hx; cases hx
      | some n =>
       cases y with
       | int ky m =>
        rw [hc] at hx
        change storedA (storeC h ad.block ad.off [wrapV k (addI n m)]) (wrapV k (addI n m)) nx = _ at hx
        have hy := h2.int
        subst hy
        obtain ⟨u, hcell, hu⟩ := cell_good R (cellI_some hc) hi
        have := hu.int
        subst this
        rw [wrapV_eq, addI_eq] at hx
        obtain ⟨s1, s2, s3⟩ := storedA_ok hx
        subst s2 s3
        obtain ⟨_, hfr, w1, hr, R1, F1⟩ := store_good (P := P) R s1 hi (VR.i k (k.wrap (n + m)))
        refine ⟨.int k (k.wrap (n + m)), w1, σ, ?_, R1, F1, VR.i _ _, Nat.le_refl _⟩
        show (Extern.Atomic.update (Op.intArith .add) k true #[.pointer (some ⟨i.r, i.shift + ad.off, none⟩), .int ky m]).run P w = _
        refine (run_b (asAddr_run _)).trans ?_
        refine (run_b (read_good hcell)).trans ?_
        have ha : (asInt (.int k n)).run P w = .ok n w := rfl
        have hb : (asInt (.int ky m)).run P w = .ok m w := rfl
        have hc' : (Op.intArith .add k n m).run P w = .ok (.int k (k.wrap (n + m))) w := rfl
        refine (run_b ha).trans ?_
        refine (run_b hb).trans ?_
        refine (run_b hc').trans ?_
        refine (run_b ((store_mode hcell).trans hr)).trans ?_
        rfl
       | _ => rw [hc] at hx; cases hx
 | acas k =>
  cases hv with
  | nil => cases hx
  | cons p p' l l' h1 hl =>
   cases hl with
   | nil => cases hx
   | cons o o' l l' h2 hl =>
    cases hl with
    | nil => cases hx
    | cons y y' l l' h3 hl =>
     cases hl with
     | cons _ _ _ _ _ _ => cases hx
     | nil =>
      change atP (ptrO p) (fun a => atCas k a (intO o) y h nx) = _ at hx
      cases hp : ptrO p with
      | none => rw [hp] at hx; cases hx
      | some ad =>
       rw [hp] at hx
       obtain ⟨i, hi, hp'⟩ := ptrO_rel hp h1
       subst hp'
       change (match cellI k (loadC h ad.block ad.off 1), intO o with | some n, some o => atCas2 (eqI n o) ad y h nx | _, _ => H.no "atomic" "") = _ at hx
       cases hc : cellI k (loadC h ad.block ad.off 1) with
       | none => rw [hc] at hx; cases hx
       | some n =>
        cases o with
        | int ko m =>
         rw [hc] at hx
         change atCas2 (eqI n m) ad y h nx = _ at hx
         have ho := h2.int
         subst ho
         obtain ⟨u, hcell, hu⟩ := cell_good R (cellI_some hc) hi
         have := hu.int
         subst this
         obtain ⟨t, size, root, hg, hsz, hl, hm⟩ := loadC_some (cellI_some hc)
         obtain ⟨cs, el, fr, hcs, _, _, hfr0, _⟩ := R.cells hg hl hi
         have hcl : w.cell? ⟨i.r, i.shift + ad.off, none⟩ = cs[i.shift + ad.off]? := cell_at hcs _
         have hlt : i.shift + ad.off < cs.size := by
          rw [hcl] at hcell
          exact (Array.getElem?_eq_some_iff.1 hcell).1
         have htf : (Extern.Atomic.touchesFrozen ⟨i.r, i.shift + ad.off, none⟩).run P w = .ok false w := by
          have hsh : (shape i.r).run P w = .ok (some (el, cs.size)) w := by
           simp [shape, Sem.run, World.shape?, hcs]
          have hva : (viewAt i.r).run P w = .ok none w := by
           unfold viewAt
           refine (run_b hsh).trans ?_
           rfl
          unfold Extern.Atomic.touchesFrozen
          refine (run_b hva).trans ?_
          show Result.ok (w.frozen? ⟨i.r, i.shift + ad.off, none⟩) w = _
          rw [frozen_at hcs]
          have := hfr0 _ hlt
          congr 1
          simp only [Bool.and_eq_false_iff, decide_eq_false_iff_not]
          omega
         have hb : ∀ b : Bool, eqI n m = b → (n == m) = b := by
          intro b hb
          rw [← hb, eqI_eq]
         cases heq : eqI n m with
         | false =>
          rw [heq] at hx
          cases hx
          refine ⟨.bool false, w, σ, ?_, R, Fwd.refl _ _ _, VR.b _, Nat.le_refl _⟩
          show (Extern.Atomic.casT (.int k) #[.pointer (some ⟨i.r, i.shift + ad.off, none⟩), .int ko m, y']).run P w = _
          refine (run_b (asAddr_run _)).trans ?_
          refine (run_b htf).trans ?_
          refine (run_b (read_good hcell)).trans ?_
          refine Eq.trans (b := Sem.run P (if (n == m) = true then (store ⟨i.r, i.shift + ad.off, none⟩ y' .atomic >>= fun _ => pure (Value.bool (n == m))) else pure (Value.bool (n == m))) w) rfl ?_
          rw [hb _ heq]
          rfl
         | true =>
          rw [heq] at hx
          obtain ⟨s1, s2, s3⟩ := storedA_ok hx
          subst s2 s3
          obtain ⟨_, hfr, w1, hr, R1, F1⟩ := store_good (P := P) R s1 hi h3
          refine ⟨.bool true, w1, σ, ?_, R1, F1, VR.b _, Nat.le_refl _⟩
          show (Extern.Atomic.casT (.int k) #[.pointer (some ⟨i.r, i.shift + ad.off, none⟩), .int ko m, y']).run P w = _
          refine (run_b (asAddr_run _)).trans ?_
          refine (run_b htf).trans ?_
          refine (run_b (read_good hcell)).trans ?_
          refine Eq.trans (b := Sem.run P (if (n == m) = true then (store ⟨i.r, i.shift + ad.off, none⟩ y' .atomic >>= fun _ => pure (Value.bool (n == m))) else pure (Value.bool (n == m))) w) rfl ?_
          rw [hb _ heq, if_pos rfl]
          exact run_b ((store_mode hcell).trans hr)
        | _ => rw [hc] at hx; cases hx
end
theorem ext_good {E : Env} (hE : ExtOK E) : ExtGood E := by
 intro g fn e hf hb he args args' h nx σ w v h' nx' R hpos hv hx
 obtain ⟨h1, h2, h3, h4⟩ := hE g fn e hf he
 obtain ⟨v', w1, σ', hr, hrest⟩ := evExtH_good (P := E.P) e h4 hpos R hv hx
 refine ⟨v', w1, σ', ?_, hrest⟩
 rw [run_callFunc_extern hf h1 (by rw [hb]; rfl) h2 h3, hr]
 rfl
end Go.Proofs.YtpnaenbpffhjfaaGreatDoor.Ev

namespace Go.Proofs.YtpnaenbpffhjfaaGreatDoor.Ev
structure Row where
 g : Nat
 a : List Value
 v : Value
noncomputable def rowsOf (g : Nat) (T : List Row) : List Row :=
 @List.rec Row (fun _ => List Row) [] (fun r _ ih => @Bool.rec (fun _ => List Row) ih (r :: ih) (Nat.beq r.g g)) T
noncomputable def findR (args : List Value) (l : List Row) : Option Value :=
 @List.rec Row (fun _ => Option Value) none (fun r _ ih => @Bool.rec (fun _ => Option Value) ih (some r.v) (sameVL r.a args)) l
noncomputable def ovR (l : List Row) : Option (List Value → Option Value) := match l with
 | [] => none
 | r :: l => some fun args => findR args (r :: l)
noncomputable def ovT (T : List Row) (g : Nat) : Option (List Value → Option Value) := ovR (rowsOf g T)
noncomputable def extT (l : List (Nat × Ext)) (f : Nat) : Option Ext :=
 @List.rec (Nat × Ext) (fun _ => Option Ext) none (fun p _ ih => @Bool.rec (fun _ => Option Ext) ih (some p.2) (Nat.beq f p.1)) l
structure RowH where
 g : Nat
 r : HRow
noncomputable def hvT (U : List RowH) (g : Nat) : List HRow :=
 @List.rec RowH (fun _ => List HRow) [] (fun p _ ih => @Bool.rec (fun _ => List HRow) ih (p.r :: ih) (Nat.beq p.g g)) U
noncomputable def memT (l : List Nat) (g : Nat) : Bool := @List.rec Nat (fun _ => Bool) false (fun k _ ih => @Bool.rec (fun _ => Bool) ih true (Nat.beq g k)) l
noncomputable def srT (l : List (Nat × Nat × Bool)) (f : Nat) : Option (FuncId × Bool) :=
 @List.rec (Nat × Nat × Bool) (fun _ => Option (FuncId × Bool)) none (fun p _ ih => @Bool.rec (fun _ => Option (FuncId × Bool)) ih (some p.2) (Nat.beq f p.1)) l
noncomputable def envK (P : Program) (X : List (Nat × Ext)) (S : List (Nat × Nat × Bool)) (T : List Row) (U : List RowH) (K : List Nat) : Env := { P, fz := fun _ => none, ext := extT X, ov := ovT T, hv := hvT U, fk := memT K, sr := srT S }
noncomputable def envT (P : Program) (X : List (Nat × Ext)) (S : List (Nat × Nat × Bool)) (T : List Row) (U : List RowH) : Env := envK P X S T U []
noncomputable def isOk (v : Value) (r : H) : Bool := @H.rec (fun _ => Bool) (fun _ _ => false) (fun u _ _ => sameV u v) r
noncomputable def rowOk (E : Env) (fuel depth nx : Nat) (r : Row) : Bool := match bodyO (fnAt E.P r.g) with
 | true => match flatL r.a, flat r.v with
  | true, true => isOk r.v ((ev E fuel depth).call r.g r.a .leaf nx)
  | _, _ => false
 | false => false
noncomputable def rowsOk (E : Env) (fuel depth nx : Nat) (l : List Row) : Bool :=
 @List.rec Row (fun _ => Bool) true (fun r _ ih => @Bool.rec (fun _ => Bool) false ih (rowOk E fuel depth nx r)) l
theorem rowsOf_mem {g : Nat} : ∀ {T : List Row} {r : Row}, r ∈ rowsOf g T → r ∈ T ∧ r.g = g
 | [], r, h => by cases h
 | x :: T, r, h => by
  change r ∈ @Bool.rec (fun _ => List Row) (rowsOf g T) (x :: rowsOf g T) (Nat.beq x.g g) at h
  cases hb : Nat.beq x.g g with
  | false =>
   rw [hb] at h
   exact ⟨List.mem_cons_of_mem _ (rowsOf_mem h).1, (rowsOf_mem h).2⟩
  | true =>
   rw [hb] at h
   rcases List.mem_cons.1 h with rfl | h
   ·exact ⟨List.mem_cons_self .., beq_true.1 hb⟩
   ·exact ⟨List.mem_cons_of_mem _ (rowsOf_mem h).1, (rowsOf_mem h).2⟩
theorem findR_some {args : List Value} {v : Value} : ∀ {l : List Row}, findR args l = some v → ∃ r ∈ l, r.a = args ∧ r.v = v
 | [], h => by cases h
 | x :: l, h => by
  change @Bool.rec (fun _ => Option Value) (findR args l) (some x.v) (sameVL x.a args) = some v at h
  cases hb : sameVL x.a args with
  | false =>
   rw [hb] at h
   obtain ⟨r, h1, h2⟩ := findR_some h
   exact ⟨r, List.mem_cons_of_mem _ h1, h2⟩
  | true =>
   rw [hb] at h
   exact ⟨x, List.mem_cons_self .., sameVL_eq _ _ hb, Option.some.inj h⟩
theorem ovT_some {T : List Row} {g : Nat} {f : List Value → Option Value} (h : ovT T g = some f) {args : List Value} {v : Value} (hf : f args = some v) : ∃ r ∈ T, r.g = g ∧ r.a = args ∧ r.v = v := by
 unfold ovT ovR at h
 cases hr : rowsOf g T with
 | nil => rw [hr] at h; cases h
 | cons x l =>
  rw [hr] at h
  cases h
  obtain ⟨r, h1, h2, h3⟩ := findR_some hf
  rw [← hr] at h1
  exact ⟨r, (rowsOf_mem h1).1, (rowsOf_mem h1).2, h2, h3⟩
theorem extT_some {f : Nat} {e : Ext} : ∀ {l : List (Nat × Ext)}, extT l f = some e → (f, e) ∈ l
 | [], h => by cases h
 | p :: l, h => by
  change @Bool.rec (fun _ => Option Ext) (extT l f) (some p.2) (Nat.beq f p.1) = some e at h
  cases hb : Nat.beq f p.1 with
  | false => rw [hb] at h; exact List.mem_cons_of_mem _ (extT_some h)
  | true =>
   rw [hb] at h
   cases h
   rw [beq_true.1 hb]
   exact List.mem_cons_self ..
def RowGood (P : Program) (r : Row) : Prop := flatL r.a = true ∧ flat r.v = true ∧
 ∀ w : World, (callFunc r.g ⟨r.a⟩).run P w = .ok (.enter r.g ⟨r.a⟩) w ∧ CallsIn Fence.wide 0 P r.g ⟨r.a⟩ w fun e w1 => e = .returned r.v ∧ RowKit.Below w.heap.size w w1
structure ProgOK (P : Program) (X : List (Nat × Ext)) (S : List (Nat × Nat × Bool)) : Prop where
 draws : P.follows .mixedOrders = true
 names : NameGood P
 exts : ∀ p ∈ X, ∃ fn, P.funcs[p.1]? = some fn ∧ (fn.name == "runtime.NumGoroutine") = false ∧ Extern.findNext fn = none ∧ Extern.find fn = some (rowOf p.2) ∧ ExtFine P p.2
 srs : ∀ p ∈ S, SrRow P p.1 p.2
section
variable {P : Program} {X : List (Nat × Ext)} {S : List (Nat × Nat × Bool)} {T : List Row} {U : List RowH} {fuel depth nx : Nat}
theorem ProgOK.ext (h : ProgOK P X S) (T : List Row) (U : List RowH) {K : List Nat} : ExtGood (envK P X S T U K) := ext_good fun g fn e hf he => by
 obtain ⟨fn', h1, h2⟩ := h.exts _ (extT_some he)
 have hf' : P.funcs[g]? = some fn := hf
 rw [hf'] at h1; cases h1
 exact h2
theorem ov_good (hT : ∀ r ∈ T, RowGood P r) {K : List Nat} : OvGood (envK P X S T U K) := by
 intro g f hg args v hf
 obtain ⟨r, h1, h2, h3, h4⟩ := ovT_some hg hf
 subst h2 h3 h4
 obtain ⟨a, b, c⟩ := hT r h1
 refine ⟨a, b, fun w => ⟨(c w).1, CallsIn.mono (c w).2 fun e w1 he => ?_⟩⟩
 obtain ⟨h5, h6⟩ := he
 exact ⟨h5, h6.os, h6.tape, h6.output, h6.size, fun k hk => h6.block k hk⟩
theorem hvT_mem {g : Nat} : ∀ {U : List RowH} {r : HRow}, r ∈ hvT U g → ∃ p ∈ U, p.g = g ∧ p.r = r
 | [], r, h => by cases h
 | x :: U, r, h => by
  change r ∈ @Bool.rec (fun _ => List HRow) (hvT U g) (x.r :: hvT U g) (Nat.beq x.g g) at h
  cases hb : Nat.beq x.g g with
  | false =>
   rw [hb] at h
   obtain ⟨p, h1, h2⟩ := hvT_mem h
   exact ⟨p, List.mem_cons_of_mem _ h1, h2⟩
  | true =>
   rw [hb] at h
   rcases List.mem_cons.1 h with rfl | h
   ·exact ⟨x, List.mem_cons_self .., beq_true.1 hb, rfl⟩
   ·obtain ⟨p, h1, h2⟩ := hvT_mem h
    exact ⟨p, List.mem_cons_of_mem _ h1, h2⟩
theorem hv_good (hU : ∀ p ∈ U, RowHGood P p.g p.r) {K : List Nat} : HvGood (envK P X S T U K) := by
 intro g r hr
 obtain ⟨p, h1, h2, h3⟩ := hvT_mem hr
 subst h2 h3
 exact hU p h1
theorem srT_some {f : Nat} {q : FuncId × Bool} : ∀ {l : List (Nat × Nat × Bool)}, srT l f = some q → (f, q) ∈ l
 | [], h => by cases h
 | p :: l, h => by
  change @Bool.rec (fun _ => Option (FuncId × Bool)) (srT l f) (some p.2) (Nat.beq f p.1) = some q at h
  cases hb : Nat.beq f p.1 with
  | false => rw [hb] at h; exact List.mem_cons_of_mem _ (srT_some h)
  | true =>
   rw [hb] at h
   cases h
   rw [beq_true.1 hb]
   exact List.mem_cons_self ..
theorem ProgOK.sr (h : ProgOK P X S) {T : List Row} {U : List RowH} {K : List Nat} : SrGood (envK P X S T U K) := fun g q hg => h.srs _ (srT_some hg)
theorem rowsH_nil : ∀ p ∈ ([] : List RowH), RowHGood P p.g p.r := fun _ h => by cases h
theorem rowsH_cons {p : RowH} (h : RowHGood P p.g p.r) (hU : ∀ p ∈ U, RowHGood P p.g p.r) : ∀ x ∈ p :: U, RowHGood P x.g x.r := fun x hx => by
 rcases List.mem_cons.1 hx with rfl | hx
 ·exact h
 ·exact hU x hx
noncomputable def rowHOk2 (r : HRow) (res : H) : Bool := match res with
 | .ok v h nx => sameV v r.v && (Nat.beq nx r.nx' && subH h r.h')
 | .no _ _ => false
def lkR (l : List (Nat × LO)) (b : Nat) : Option LO := match l with
 | [] => none
 | p :: l => match Nat.beq p.1 b with | true => some p.2 | false => lkR l b
def wfLive (l0 : List (Nat × LO)) : List (Nat × LO) → Bool
 | [] => true
 | (b, .cells _ f) :: l => (Nat.beq f 0 || (match lkR l0 f with | some (.fam _ al) => Nat.ble al b | _ => false)) && wfLive l0 l
 | _ :: l => wfLive l0 l
def wfRoot (l0 : List (Nat × LO)) : List (Nat × LO) → Bool
 | [] => true
 | (_, .cells _ f) :: l => (Nat.beq f 0 || (match lkR l0 f with | some (.fam _ _) => true | _ => false)) && wfRoot l0 l
 | _ :: l => wfRoot l0 l
def wfFam (l0 : List (Nat × LO)) (nx : Nat) : List (Nat × LO) → Bool
 | [] => true
 | (f, .fam la al) :: l => (match Nat.ble nx f with
  | true => Nat.ble nx al && Nat.ble nx la
  | false => match lkR l0 f with | some (.fam la0 al0) => Nat.ble al0 al && Nat.ble la0 la | _ => false) && wfFam l0 nx l
 | _ :: l => wfFam l0 nx l
def wfB (r : HRow) : Bool := wfLive r.h r.h && (wfRoot r.h' r.h' && wfFam r.h r.nx r.h')
theorem lkR_eq : ∀ (l : List (Nat × LO)) (b : Nat), lkR l b = lk l b
 | [], b => rfl
 | p :: l, b => by
  unfold lkR lk
  cases hb : Nat.beq p.1 b with
  | true => rw [if_pos (beq_true.1 hb)]
  | false => rw [if_neg (fun e => by rw [beq_true.2 e] at hb; cases hb)]; exact lkR_eq l b
theorem wfLive_ok {l0 : List (Nat × LO)} : ∀ {l : List (Nat × LO)}, wfLive l0 l = true → ∀ b vs f, (b, LO.cells vs f) ∈ l → f ≠ 0 → ∃ la al, lk l0 f = some (.fam la al) ∧ al ≤ b
 | [], _, _, _, _, hm, _ => by cases hm
 | (c, x) :: l, h, b, vs, f, hm, h0 => by
  have hr : wfLive l0 l = true := by
   cases x <;> simp only [wfLive, Bool.and_eq_true] at h <;> first | exact h | exact h.2
  rcases List.mem_cons.1 hm with e | hm
  ·cases e
   simp only [wfLive, Bool.and_eq_true, Bool.or_eq_true] at h
   rcases h.1 with h1 | h1
   ·exact absurd (beq_true.1 h1) h0
   ·rw [lkR_eq] at h1
    cases hk : lk l0 f with
    | none => rw [hk] at h1; cases h1
    | some y =>
     rw [hk] at h1
     cases y with
     | fam la al => exact ⟨la, al, rfl, ble_true.1 h1⟩
     | _ => cases h1
  ·exact wfLive_ok hr b vs f hm h0
theorem wfRoot_ok {l0 : List (Nat × LO)} : ∀ {l : List (Nat × LO)}, wfRoot l0 l = true → ∀ b vs f, (b, LO.cells vs f) ∈ l → f ≠ 0 → ∃ la al, lk l0 f = some (.fam la al)
 | [], _, _, _, _, hm, _ => by cases hm
 | (c, x) :: l, h, b, vs, f, hm, h0 => by
  have hr : wfRoot l0 l = true := by
   cases x <;> simp only [wfRoot, Bool.and_eq_true] at h <;> first | exact h | exact h.2
  rcases List.mem_cons.1 hm with e | hm
  ·cases e
   simp only [wfRoot, Bool.and_eq_true, Bool.or_eq_true] at h
   rcases h.1 with h1 | h1
   ·exact absurd (beq_true.1 h1) h0
   ·rw [lkR_eq] at h1
    cases hk : lk l0 f with
    | none => rw [hk] at h1; cases h1
    | some y =>
     rw [hk] at h1
     cases y with
     | fam la al => exact ⟨la, al, rfl⟩
     | _ => cases h1
  ·exact wfRoot_ok hr b vs f hm h0
theorem wfFam_ok {l0 : List (Nat × LO)} {nx : Nat} : ∀ {l : List (Nat × LO)}, wfFam l0 nx l = true → ∀ f la al, (f, LO.fam la al) ∈ l →
  (f < nx → ∃ la0 al0, lk l0 f = some (.fam la0 al0) ∧ al0 ≤ al ∧ la0 ≤ la) ∧ (nx ≤ f → nx ≤ al ∧ nx ≤ la)
 | [], _, _, _, _, hm => by cases hm
 | (c, x) :: l, h, f, la, al, hm => by
  have hr : wfFam l0 nx l = true := by
   cases x <;> simp only [wfFam, Bool.and_eq_true] at h <;> first | exact h | exact h.2
  rcases List.mem_cons.1 hm with e | hm
  ·have e1 : f = c := congrArg Prod.fst e
   have e2 : LO.fam la al = x := congrArg Prod.snd e
   subst e2; subst e1
   simp only [wfFam, Bool.and_eq_true] at h
   have h1 := h.1
   cases hb : Nat.ble nx f with
   | true =>
    rw [hb] at h1
    simp only [Bool.and_eq_true] at h1
    have := ble_true.1 hb
    exact ⟨fun h => by omega, fun _ => ⟨ble_true.1 h1.1, ble_true.1 h1.2⟩⟩
   | false =>
    rw [hb] at h1
    simp only at h1
    have hlt : f < nx := by
     rcases Nat.lt_or_ge f nx with h | h
     ·exact h
     ·rw [ble_true.2 h] at hb; cases hb
    refine ⟨fun _ => ?_, fun h => by omega⟩
    rw [lkR_eq] at h1
    cases hk : lk l0 f with
    | none => rw [hk] at h1; cases h1
    | some y =>
     rw [hk] at h1
     cases y with
     | fam la0 al0 =>
      simp only [Bool.and_eq_true] at h1
      exact ⟨la0, al0, rfl, ble_true.1 h1.1, ble_true.1 h1.2⟩
     | _ => cases h1
  ·exact wfFam_ok hr f la al hm
theorem wfB_ok {r : HRow} (h : wfB r = true) : Wf r := by
 unfold wfB at h
 simp only [Bool.and_eq_true] at h
 exact ⟨fun b vs f hk h0 => wfLive_ok h.1 b vs f (lk_mem hk) h0, fun b vs f hk h0 => wfRoot_ok h.2.1 b vs f (lk_mem hk) h0,
  fun f la al hk => (wfFam_ok h.2.2 f la al (lk_mem hk)).1, fun f la al hk => (wfFam_ok h.2.2 f la al (lk_mem hk)).2⟩
noncomputable def rowHOk (E : Env) (fuel depth : Nat) (p : RowH) : Bool := wfB p.r && rowHOk2 p.r ((ev E fuel depth).call p.g p.r.a (hpOf p.r.h) p.r.nx)
theorem Post.less {σ : Sg} {h : Hp} {w : World} {h2 h3 : Hp} {nx' : Nat} (hs : ∀ b o, h3.get b = some o → ∃ ao, h2.get b = some ao ∧ Less o ao) {σ' : Sg} {w1 : World} (R : Rel σ' h2 nx' w1) (F : Fwd σ h w σ' h2 w1) :
  Rel σ' h3 nx' w1 ∧ Fwd σ h w σ' h3 w1 := by
 refine ⟨R.part hs, ⟨F.sub, F.os, F.tape, F.output, F.size, fun r hr => F.image r ?_, fun r hr => F.imt r ?_, F.frame, F.fr⟩⟩
 ·obtain ⟨b, o, i, hb, hi, hir⟩ := hr
  obtain ⟨ao, h1, _⟩ := hs b o hb
  exact ⟨b, ao, i, h1, hi, hir⟩
 ·obtain ⟨b, o, i, hb, hi, hir, hnt⟩ := hr
  obtain ⟨ao, h1, hls⟩ := hs b o hb
  exact ⟨b, ao, i, h1, hi, hir, fun x => hnt (hls.isTab.1 x)⟩
theorem rowH_good (h : ProgOK P X S) (hT : ∀ r ∈ T, RowGood P r) (hU : ∀ p ∈ U, RowHGood P p.g p.r) {p : RowH} (hpos : 1 ≤ p.r.nx) (hr : rowHOk (envT P X S T U) fuel depth p = true) : RowHGood P p.g p.r := by
 have hr2 : rowHOk2 p.r ((ev (envT P X S T U) fuel depth).call p.g p.r.a (hpOf p.r.h) p.r.nx) = true := by
  unfold rowHOk at hr
  simp only [Bool.and_eq_true] at hr
  exact hr.2
 have hwf : wfB p.r = true := by
  unfold rowHOk at hr
  simp only [Bool.and_eq_true] at hr
  exact hr.1
 refine ⟨wfB_ok hwf, ?_⟩
 intro σ w args' R hv
 have hG := (ev_good (E := envT P X S T U) (draw_good h.draws) h.names (h.ext T U) (ov_good hT) (hv_good hU) h.sr (fz_none fun _ => rfl) fuel depth).call p.g p.r.a (hpOf p.r.h) p.r.nx σ w args' R hpos hv
 replace hr := hr2
 cases hres : (ev (envT P X S T U) fuel depth).call p.g p.r.a (hpOf p.r.h) p.r.nx with
 | no _ _ => rw [hres] at hr; cases hr
 | ok v2 h2 nx2 =>
  rw [hres] at hr hG
  change (sameV v2 p.r.v && (Nat.beq nx2 p.r.nx' && subH h2 p.r.h')) = true at hr
  simp only [Bool.and_eq_true] at hr
  have e1 := sameV_eq _ _ hr.1
  have e2 := beq_true.1 hr.2.1
  have hs := subH_less hr.2.2
  rw [e1, e2] at hG
  rcases hG with ⟨v', w1, σ', g1, g2, g3, g4, g5⟩ | ⟨g1, g2⟩
  ·obtain ⟨a, b⟩ := Post.less hs g2 g3
   exact .inl ⟨v', w1, σ', g1, a, b, g4, g5⟩
  ·refine .inr ⟨g1, CallsIn.mono g2 fun e w1 he => ?_⟩
   obtain ⟨v', σ', k1, k2, k3, k4, k5⟩ := he
   obtain ⟨a, b⟩ := Post.less hs k2 k3
   exact ⟨v', σ', k1, a, b, k4, k5⟩
theorem row_good (h : ProgOK P X S) (hT : ∀ r ∈ T, RowGood P r) (hU : ∀ p ∈ U, RowHGood P p.g p.r) (hpos : 61 ≤ nx) {r : Row} (hr : rowOk (envT P X S T U) fuel depth nx r = true) : RowGood P r := by
 unfold rowOk at hr
 rw [fnAt_eq] at hr
 cases hb : bodyO ((envT P X S T U).P.funcs[r.g]?) with
 | false => rw [hb] at hr; cases hr
 | true =>
  rw [hb] at hr
  cases ha : flatL r.a with
  | false => rw [ha] at hr; cases hr
  | true =>
   cases hv : flat r.v with
   | false => rw [ha, hv] at hr; cases hr
   | true =>
    rw [ha, hv] at hr
    simp only at hr
    refine ⟨ha, hv, fun w => closed_in (E := envT P X S T U) (fuel := fuel) (depth := depth) (draw_good h.draws) h.names (h.ext T U) (ov_good hT) (hv_good hU) h.sr (fz_none fun _ => rfl) hpos hb ha hv ?_ w⟩
    unfold isOk at hr
    cases hres : (ev (envT P X S T U) fuel depth).call r.g r.a .leaf nx with
    | no _ _ => rw [hres] at hr; cases hr
    | ok u h' nx' => rw [hres] at hr; exact sameV_eq _ _ hr
theorem rows_good (h : ProgOK P X S) (hT : ∀ r ∈ T, RowGood P r) (hU : ∀ p ∈ U, RowHGood P p.g p.r) (hpos : 61 ≤ nx) : ∀ {l : List Row}, rowsOk (envT P X S T U) fuel depth nx l = true → ∀ r ∈ l, RowGood P r
 | [], _ => fun r hr => by cases hr
 | x :: l, hl => fun r hr => by
  change @Bool.rec (fun _ => Bool) false (rowsOk (envT P X S T U) fuel depth nx l) (rowOk (envT P X S T U) fuel depth nx x) = true at hl
  cases hb : rowOk (envT P X S T U) fuel depth nx x with
  | false => rw [hb] at hl; cases hl
  | true =>
   rw [hb] at hl
   rcases List.mem_cons.1 hr with rfl | hr
   ·exact row_good h hT hU hpos hb
   ·exact rows_good h hT hU hpos hl r hr
theorem rows_app {l m : List Row} (hl : ∀ r ∈ l, RowGood P r) (hm : ∀ r ∈ m, RowGood P r) : ∀ r ∈ l ++ m, RowGood P r := fun r hr => (List.mem_append.1 hr).elim (hl r) (hm r)
noncomputable def nameOk (o : Option Func) : Bool := match o with
 | some fn => match fn.body with
  | some _ => nb (fn.name == "runtime.NumGoroutine")
  | none => true
 | none => true
noncomputable def namesL (l : List Func) : Bool := @List.rec Func (fun _ => Bool) true (fun fn _ ih => @Bool.rec (fun _ => Bool) false ih (nameOk (some fn))) l
noncomputable def namesOk (P : Program) (n : Nat) : Bool := namesL P.funcs.toList
theorem namesL_ok : ∀ {l : List Func}, namesL l = true → ∀ fn ∈ l, nameOk (some fn) = true
 | [], _, fn, h => by cases h
 | x :: l, h, fn, hm => by
  change @Bool.rec (fun _ => Bool) false (namesL l) (nameOk (some x)) = true at h
  cases hb : nameOk (some x) with
  | false => rw [hb] at h; cases h
  | true =>
   rw [hb] at h
   rcases List.mem_cons.1 hm with rfl | hm
   ·exact hb
   ·exact namesL_ok h fn hm
theorem names_good {n : Nat} (hn : P.funcs.size = n) (h : namesOk P n = true) : NameGood P := by
 intro g fn hf hb
 have := namesL_ok h fn (by rw [← Array.getElem?_toList] at hf; exact List.mem_of_getElem? hf)
 cases hbb : fn.body with
 | none => rw [hbb] at hb; cases hb
 | some c =>
  simp only [nameOk, hbb, nb_eq, Bool.not_eq_true'] at this
  exact this
theorem rows_cons {r : Row} (h : RowGood P r) (hT : ∀ r ∈ T, RowGood P r) : ∀ x ∈ r :: T, RowGood P x := fun x hx => by
 rcases List.mem_cons.1 hx with rfl | hx
 ·exact h
 ·exact hT x hx
theorem rows_nil : ∀ r ∈ ([] : List Row), RowGood P r := fun _ h => by cases h
def sV (l : List Nat) : Value := .string ⟨⟨l.map UInt8.ofNat⟩⟩
def iV (n : Nat) : Value := .int .i64 (.ofNat n)
def bV (n : Nat) : Value := .int .u8 (.ofNat n)
def bL (l : List Nat) : List Value := l.map bV
def tL (l : List Nat) : List UInt8 := l.map UInt8.ofNat
def sl (b o e l c : Nat) : Value := .slice (some ⟨b, o, some e⟩) l c
def sx (b o l c : Nat) : Value := .slice (some ⟨b, o, none⟩) l c
def pt (b o : Nat) : Value := .pointer (some ⟨b, o, none⟩)
def mp (b : Nat) : Value := .map (some b)
def nS : Value := .slice none 0 0
def nP : Value := .pointer none
def nM : Value := .map none
def u3 (n : Nat) : Value := .int .u32 (.ofNat n)
def u6 (n : Nat) : Value := .int .u64 (.ofNat n)
def i3 (n : Nat) : Value := .int .i32 (.ofNat n)
def bT : Value := .bool true
def bF : Value := .bool false
def ag (l : List Value) : Value := .agg ⟨l⟩
def K0 (l : List Value) : LO := .cells l 0
def K1 (l : List Value) (r : Nat) : LO := .cells l r
def Fm (a b : Nat) : LO := .fam a b
noncomputable def rowKOk (E : Env) (fuel depth nx : Nat) (l : List (Nat × List Value)) (r : Row) : Bool := match bodyO (fnAt E.P r.g) with
 | true => match flat r.v with
  | true => isOk r.v ((ev E fuel depth).call r.g r.a (tabsH l) nx)
  | false => false
 | false => false
theorem rowK_good (h : ProgOK P X S) (hT : ∀ r ∈ T, RowGood P r) (hU : ∀ p ∈ U, RowHGood P p.g p.r) (K : List Nat) (hpos : 61 ≤ nx) (l : List (Nat × List Value)) {r : Row} (hr : rowKOk (envK P X S T U K) fuel depth nx l r = true) (w : World) (hl : TabsIn w l) {args' : List Value} (ha : VRL (Sg.start w) r.a args') :
  Calls P r.g ⟨args'⟩ w fun e w1 => e = .returned r.v ∧ RowKit.Below w.heap.size w w1 := by
 unfold rowKOk at hr
 rw [fnAt_eq] at hr
 cases hb : bodyO ((envK P X S T U K).P.funcs[r.g]?) with
 | false => rw [hb] at hr; cases hr
 | true =>
  rw [hb] at hr
  cases hv : flat r.v with
  | false => rw [hv] at hr; cases hr
  | true =>
   rw [hv] at hr
   simp only at hr
   refine callsIn_wide.1 (closed_at (E := envK P X S T U K) (fuel := fuel) (depth := depth) (draw_good h.draws) h.names (h.ext T U) (ov_good hT) (hv_good hU) h.sr (fz_none fun _ => rfl) hpos hb w ha hv hl ?_).2
   unfold isOk at hr
   cases hres : (ev (envK P X S T U K) fuel depth).call r.g r.a (tabsH l) nx with
   | no _ _ => rw [hres] at hr; cases hr
   | ok u h' nx' => rw [hres] at hr; exact sameV_eq _ _ hr
theorem RowGood.calls {r : Row} (hr : RowGood P r) (w : World) : Calls P r.g ⟨r.a⟩ w fun e w1 => e = .returned r.v ∧ RowKit.Below w.heap.size w w1 := callsIn_wide.1 (hr.2.2 w).2
end
end Go.Proofs.YtpnaenbpffhjfaaGreatDoor.Ev

