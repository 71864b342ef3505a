/- The evaluator, part 4: code, functions, rounds are what the evaluator says. No program in sight; no conditions. -/
import Derived.Test.YtpnaenbpffhjfaaGreatDoorEy3
import Derived.LoopNIn
import Derived.RangeFuncIn
import Derived.RangeFuncLeaves
import Derived.Below
import Derived.Lib.LaidTab
set_option linter.unusedVariables false
set_option linter.unusedSimpArgs false
namespace Go.Proofs.YtpnaenbpffhjfaaGreatDoor.Ev
def scopeEx (c : Code) (J : Code → Act → World → Prop) (Q : Exit → Act → World → Prop) : Exit → Act → World → Prop
 | .goto l, a, w => match findLabel c l with
  | some rest => J rest a w
  | none => Q (.goto l) a w
 | e, a, w => Q e a w
def scopeIn (F : Fence) (n : Nat) (P : Program) (c : Code) (Q : Exit → Act → World → Prop) : Nat → Code → Act → World → Prop
 | 0, _, _, _ => False
 | m + 1, d, a, w => d.wpIn F n P (scopeEx c (scopeIn F n P c Q m) Q) a w
section
variable {F : Fence} {n : Nat} {P : Program} {b : Frame} {a : Act} {k : List Item} {cs : List Frame} {w : World} {Q : Exit → Act → World → Prop}
theorem stepR_scope {c : Code} : step P (lone (b.atR a (.code (.scope c) :: k)) cs w) = .next (lone (b.atR a (.code c :: .inScope c :: k)) cs w) :=
 step_lone_go (by simp [stepG, stepG.exec, Frame.atR])
theorem stepR_inScope {c : Code} : step P (lone (b.atR a (.inScope c :: k)) cs w) = .next (lone (b.atR a k) cs w) :=
 step_lone_go (by simp [stepG, stepG.exec, Frame.atR])
theorem wpIn_scope_rounds {c : Code} (m : Nat) (h : scopeIn F n P c Q m c a w) : (Code.scope c).wpIn F n P Q a w := by
 intro b k cs hro hb hr
 have key : ∀ m d a w, scopeIn F n P c Q m d a w →
   ∃ e a' w', Q e a' w' ∧ ArrivesIn (Machine.fenced P F) P (lone (b.atR a (.code d :: .inScope c :: k)) cs w) b k cs e a' w' := by
  intro m
  induction m with
  | zero => intro d a w h; exact h.elim
  | succ m ih =>
   intro d a w h
   obtain ⟨e, a₁, w₁, hq, harr⟩ := h b (.inScope c :: k) cs hro hb hr
   cases e with
   | normal => exact ⟨.normal, a₁, w₁, hq, StepsIn.trans harr (.one (fenced_calm hb hr rfl) stepR_inScope)⟩
   | exit id =>
    have hx : exitTo id (.inScope c :: k) = exitTo id k := by simp [exitTo]
    exact ⟨.exit id, a₁, w₁, hq, fun k' hk => harr.1 k' (by rw [hx]; exact hk), fun hr' hk => harr.2 hr' (by rw [hx]; exact hk)⟩
   | goto l =>
    change (match findLabel c l with | some rest => scopeIn F n P c Q m rest a₁ w₁ | none => Q (.goto l) a₁ w₁) at hq
    cases hf : findLabel c l with
    | some rest =>
     rw [hf] at hq
     have hg : gotoIn l (.inScope c :: k) = some (.code rest :: .inScope c :: k) := by simp [gotoIn, hf]
     obtain ⟨e₂, a₂, w₂, hq₂, harr₂⟩ := ih rest a₁ w₁ hq
     exact ⟨e₂, a₂, w₂, hq₂, .of_steps (harr.1 _ hg) harr₂⟩
    | none =>
     rw [hf] at hq
     have hx : gotoIn l (.inScope c :: k) = gotoIn l k := by simp [gotoIn, hf]
     exact ⟨.goto l, a₁, w₁, hq, fun k' hk => harr.1 k' (by rw [hx]; exact hk), fun hr' hk => harr.2 hr' (by rw [hx]; exact hk)⟩
   | ret => exact ⟨_, a₁, w₁, hq, harr⟩
   | panic ch => exact ⟨_, a₁, w₁, hq, harr⟩
   | outgrown => exact ⟨_, a₁, w₁, hq, harr⟩
 obtain ⟨e, a', w', hq, harr⟩ := key m c a w h
 exact ⟨e, a', w', hq, .of_steps (.one (fenced_calm hb hr rfl) stepR_scope) harr⟩
end

def KGood (P : Program) (nt : Nat) (c : Code) (k : KC) : Prop :=
 ∀ r, RecGood P r → ∀ S ro tm df h nx σ w a, St σ h nx w S nt tm df a ro → Fut σ h nx w S nt ro (fun Q => c.wpIn (FwR ro) 0 P Q a w) (k.f r S tm df h nx)
section
variable {P : Program} {nt : Nat}
theorem then_good {σ : Sg} {h : Hp} {nx : Nat} {w : World} {S : Sx} {ro : Option Nat} {W V : (Exit → Act → World → Prop) → Prop} {res : C} {k : Tr Value → List DfE → Hp → Nat → C} {Nx : (Exit → Act → World → Prop) → Act → World → Prop}
  (hx : Fut σ h nx w S nt ro W res) (hy : ∀ tm df h1 nx1 σ1 w1 a1, St σ1 h1 nx1 w1 S nt tm df a1 ro → Fut σ1 h1 nx1 w1 S nt ro (fun Q => Nx Q a1 w1) (k tm df h1 nx1))
  (hV : ∀ Q, W (Exit.then (Nx Q) Q) → V Q) : Fut σ h nx w S nt ro V (thenC res k) := by
 cases res with
 | no _ _ => trivial
 | ok e tm df h1 nx1 =>
  cases e with
  | normal =>
   show Fut σ h nx w S nt ro V (k tm df h1 nx1)
   cases hc : k tm df h1 nx1 with
   | no _ _ => trivial
   | ok e2 tm2 df2 h2 nx2 =>
    intro Q hQ
    refine hV Q (hx _ fun σ1 a1 w1 s1 f1 hn => ?_)
    have := hy tm df h1 nx1 σ1 w1 a1 s1
    rw [hc] at this
    exact this Q fun σ2 a2 w2 s2 f2 hn2 => hQ σ2 a2 w2 s2 (f1.trans f2) (Nat.le_trans hn hn2)
  | exit id => exact fun Q hQ => hV Q (hx _ fun σ1 a1 w1 s1 f1 hn => hQ σ1 a1 w1 s1 f1 hn)
  | goto l => exact fun Q hQ => hV Q (hx _ fun σ1 a1 w1 s1 f1 hn => hQ σ1 a1 w1 s1 f1 hn)
  | ret => exact fun Q hQ => hV Q (hx _ fun σ1 a1 w1 s1 f1 hn => hQ σ1 a1 w1 s1 f1 hn)
theorem Fut.mono {σ : Sg} {h : Hp} {nx : Nat} {w : World} {S : Sx} {ro : Option Nat} {W V : (Exit → Act → World → Prop) → Prop} {res : C} (hx : Fut σ h nx w S nt ro W res) (hV : ∀ Q, W Q → V Q) : Fut σ h nx w S nt ro V res := by
 cases res with
 | no _ _ => trivial
 | ok e tm df h1 nx1 => exact fun Q hQ => hV Q (hx Q hQ)
theorem Fut.done {σ : Sg} {h : Hp} {nx : Nat} {w : World} {S : Sx} {ro : Option Nat} {W : (Exit → Act → World → Prop) → Prop} {tm : Tr Value} {df : List DfE} {a : Act} (s : St σ h nx w S nt tm df a ro) (e : Ex)
  (hW : ∀ Q, Q (exitOf e) a w → W Q) : Fut σ h nx w S nt ro W (.ok e tm df h nx) := fun Q hQ => hW Q (hQ σ a w s (Fwd.refl _ _ _) (Nat.le_refl _))
theorem loop_good {c : Code} {k : KC} (hk : KGood P nt c k) : KGood P nt (.loop c) ⟨fun r S tm df h nx => loopC k r S tm df h nx⟩ := by
 intro r G S ro tm df h nx σ w a s
 show Fut σ h nx w S nt ro _ (loopC k r S tm df h nx)
 unfold loopC
 have key : ∀ m tm df h nx σ w a, St σ h nx w S nt tm df a ro → Fut σ h nx w S nt ro (fun Q => Code.roundsIn (FwR ro) 0 P c Q m a w)
   (@Nat.rec (fun _ => Tr Value → List DfE → Hp → Nat → C) (fun _ _ _ _ => .no "fuel" "") (fun _ ih tm df h nx => thenC (k.f r S tm df h nx) ih) m tm df h nx) := by
  intro m
  induction m with
  | zero => intros; trivial
  | succ m ih =>
   intro tm df h nx σ w a s
   exact then_good (hk r G S ro tm df h nx σ w a s) (fun tm df h1 nx1 σ1 w1 a1 s1 => ih tm df h1 nx1 σ1 w1 a1 s1) (fun Q hq => hq)
 exact (key r.fuel tm df h nx σ w a s).mono fun Q hq => wpIn_loop_rounds _ hq
theorem block_good {c : Code} {id : Nat} {k : KC} (hk : KGood P nt c k) : KGood P nt (.block id c) ⟨fun r S tm df h nx => blockC id (k.f r S tm df h nx)⟩ := by
 intro r G S ro tm df h nx σ w a s
 have hx := hk r G S ro tm df h nx σ w a s
 show Fut σ h nx w S nt ro _ (blockC id (k.f r S tm df h nx))
 cases hres : k.f r S tm df h nx with
 | no _ _ => trivial
 | ok e tm2 df2 h2 nx2 =>
  rw [hres] at hx
  intro Q hQ
  refine wpIn_block (hx _ fun σ1 a1 w1 s1 f1 hn => ?_)
  have := hQ σ1 a1 w1 s1 f1 hn
  cases e with
  | exit j =>
   show if j = id then _ else _
   by_cases hj : j = id
   ·rw [if_pos hj]
    simp only [exitC, beq_true.2 hj] at this
    exact this
   ·rw [if_neg hj]
    simp only [exitC, beq_false.2 hj] at this
    exact this
  | _ => exact this
theorem cond_good {v : Operand} {x y : Code} {kx ky : KC} (hx : KGood P nt x kx) (hy : KGood P nt y ky) : KGood P nt (.cond v x y) ⟨fun r S tm df h nx => condC (opv v tm) (kx.f r S tm df h nx) (ky.f r S tm df h nx)⟩ := by
 intro r G S ro tm df h nx σ w a s
 have hv := VR.opv s.T v
 show Fut σ h nx w S nt ro _ (condC (opv v tm) (kx.f r S tm df h nx) (ky.f r S tm df h nx))
 cases hov : opv v tm with
 | bool b =>
  rw [hov] at hv
  cases b with
  | true => exact (hx r G S ro tm df h nx σ w a s).mono fun Q hq => wpIn_cond_true hv.bool hq
  | false => exact (hy r G S ro tm df h nx σ w a s).mono fun Q hq => wpIn_cond_false hv.bool hq
 | _ => trivial
theorem seqc_good {x y : Code} {kx ky : KC} (hx : KGood P nt x kx) (hy : KGood P nt y ky) : KGood P nt (.seq x y) ⟨fun r S tm df h nx => thenC (kx.f r S tm df h nx) fun tm df h nx => ky.f r S tm df h nx⟩ := by
 intro r G S ro tm df h nx σ w a s
 exact then_good (hx r G S ro tm df h nx σ w a s) (fun tm df h1 nx1 σ1 w1 a1 s1 => hy r G S ro tm df h1 nx1 σ1 w1 a1 s1) (fun Q hq => wpIn_seq hq)
theorem region_good {id : Nat} {ops : Array Oper} : KGood P nt (.region id ops false) (cSeq P nt ops.toList ops.toList) := by
 intro r G S ro tm df h nx σ w a s
 refine (seq_good (P := P) (nt := nt) (ops := ops) ops.toList 0 (by simp) r G S ro tm df h nx σ w a s).mono fun Q hq => wpIn_region ?_
 rw [List.range_eq_range']
 simpa using hq
end
end Go.Proofs.YtpnaenbpffhjfaaGreatDoor.Ev

namespace Go.Proofs.YtpnaenbpffhjfaaGreatDoor.Ev
section
variable {P : Program} {nt : Nat}
theorem scope_good (sc : Code → KC) (hk : ∀ c, KGood P nt c (cCode P nt sc c)) (b : Code) :
  KGood P nt (.scope b) ⟨fun r S => @Nat.rec (fun _ => Code → Tr Value → List DfE → Hp → Nat → C) (fun _ _ _ _ _ => .no "fuel" "")
   (fun _ ih c tm df h nx => scopeC b ih ((cCode P nt sc c).f r S tm df h nx)) r.fuel b⟩ := by
 intro r G S ro tm df h nx σ w a s
 have key : ∀ m c tm df h nx σ w a, St σ h nx w S nt tm df a ro → Fut σ h nx w S nt ro (fun Q => scopeIn (FwR ro) 0 P b Q m c a w)
   (@Nat.rec (fun _ => Code → Tr Value → List DfE → Hp → Nat → C) (fun _ _ _ _ _ => .no "fuel" "") (fun _ ih c tm df h nx => scopeC b ih ((cCode P nt sc c).f r S tm df h nx)) m c tm df h nx) := by
  intro m
  induction m with
  | zero => intros; trivial
  | succ m ih =>
   intro c tm df h nx σ w a s
   have hx := hk c r G S ro tm df h nx σ w a s
   show Fut σ h nx w S nt ro _ (scopeC b (fun c tm df h nx => @Nat.rec (fun _ => Code → Tr Value → List DfE → Hp → Nat → C) (fun _ _ _ _ _ => .no "fuel" "") (fun _ ih c tm df h nx => scopeC b ih ((cCode P nt sc c).f r S tm df h nx)) m c tm df h nx)
    ((cCode P nt sc c).f r S tm df h nx))
   cases hres : (cCode P nt sc c).f r S tm df h nx with
   | no _ _ => trivial
   | ok e tm2 df2 h2 nx2 =>
    rw [hres] at hx
    cases e with
    | goto l =>
     show Fut σ h nx w S nt ro _ (scopeRest (findLabel b l) _ l tm2 df2 h2 nx2)
     cases hf : findLabel b l with
     | none =>
      intro Q hQ
      refine hx _ fun σ1 a1 w1 s1 f1 hn => ?_
      show match findLabel b l with | some rest => _ | none => _
      rw [hf]
      exact hQ σ1 a1 w1 s1 f1 hn
     | some rest =>
      show Fut σ h nx w S nt ro _ (@Nat.rec (fun _ => Code → Tr Value → List DfE → Hp → Nat → C) (fun _ _ _ _ _ => .no "fuel" "") (fun _ ih c tm df h nx => scopeC b ih ((cCode P nt sc c).f r S tm df h nx)) m rest tm2 df2 h2 nx2)
      cases hc : (@Nat.rec (fun _ => Code → Tr Value → List DfE → Hp → Nat → C) (fun _ _ _ _ _ => .no "fuel" "") (fun _ ih c tm df h nx => scopeC b ih ((cCode P nt sc c).f r S tm df h nx)) m rest tm2 df2 h2 nx2) with
      | no _ _ => trivial
      | ok e3 tm3 df3 h3 nx3 =>
       intro Q hQ
       refine hx _ fun σ1 a1 w1 s1 f1 hn => ?_
       show match findLabel b l with | some rest => _ | none => _
       rw [hf]
       have := ih rest tm2 df2 h2 nx2 σ1 w1 a1 s1
       rw [hc] at this
       exact this Q fun σ2 a2 w2 s2 f2 hn2 => hQ σ2 a2 w2 s2 (f1.trans f2) (Nat.le_trans hn hn2)
    | normal => exact fun Q hQ => hx _ fun σ1 a1 w1 s1 f1 hn => hQ σ1 a1 w1 s1 f1 hn
    | exit id => exact fun Q hQ => hx _ fun σ1 a1 w1 s1 f1 hn => hQ σ1 a1 w1 s1 f1 hn
    | ret => exact fun Q hQ => hx _ fun σ1 a1 w1 s1 f1 hn => hQ σ1 a1 w1 s1 f1 hn
 exact (key r.fuel b tm df h nx σ w a s).mono fun Q hq => wpIn_scope_rounds _ hq
end
end Go.Proofs.YtpnaenbpffhjfaaGreatDoor.Ev

namespace Go.Proofs.YtpnaenbpffhjfaaGreatDoor.Ev
section
variable {P : Program} {nt : Nat}
theorem body_enter {f : FuncId} {args : Array Value} {w w1 : World} {v : Value} (hb : bodyO (P.funcs[f]?) = true) : (callFunc f args).run P w ≠ .ok (.value v) w1 := by
 intro hr
 unfold callFunc at hr
 rw [run_b run_program] at hr
 cases hf : P.funcs[f]? with
 | none => rw [hf] at hb; cases hb
 | some fn =>
  rw [hf] at hb
  simp only [hf] at hr
  cases hbd : fn.body with
  | none => simp only [bodyO, hbd] at hb; cases hb
  | some c =>
   simp only [hbd, Option.isNone_some, Bool.false_eq_true, if_false] at hr
   split at hr <;> cases hr
theorem run_getLoop {w : World} {l : Nat} {L : Loop} (hw : w.heap[l]? = some (.loop L)) : (Instr.getLoop l).run P w = .ok L w := by
 have hgo : (getObj l).run P w = .ok (.loop L) w := run_getObj hw (by intros; simp)
 unfold Instr.getLoop
 rw [run_b hgo]; rfl
theorem run_endLoop {w : World} {l : Nat} {L : Loop} (hw : w.heap[l]? = some (.loop L)) (hb : isBusy L.state = false) :
  (Instr.endLoop l).run P w = .ok L.pending { w with heap := w.heap.setIfInBounds l (.loop { L with state := .exhausted }) } := by
 unfold Instr.endLoop
 rw [run_b (run_getLoop hw)]
 have hne : ¬ ((L.state == .busy) = true) := by
  cases hs : L.state <;> simp [isBusy, hs] at hb ⊢ <;> decide
 refine (run_ite_f hne).trans ?_
 rw [run_b (run_setObj hw (by intros; simp))]
 rfl
theorem range_tail {r : Rec} (G : RecGood P r) {S : Sx} {ro : Option Nat} {tm : Tr Value} {df : List DfE} {h h1 : Hp} {nx nx1 : Nat} {σ σ1 : Sg} {w w1 : World} {a : Act} {g : Operand} {lb : Nat} {i : BI} {mark : List Deferred}
  (R1 : Rel σ1 h1 nx1 w1) (F1 : Fwd σ h w σ1 h1 w1) (hn : nx ≤ nx1) (hpos : 1 ≤ nx1) (hlb : σ1 lb = some i) (hgv : VR σ1 (opv g tm) (a.eval g)) (T1 : TR σ1 nt tm a.tmps) (D1 : DR σ1 df (mark ++ a.defers))
  (ro1 : RO σ1 S.ro ro) (hsn : S.nt = nt) :
  Fut σ h nx w S nt ro (fun Q => ∃ d f args, (resolve a.eval (Go.rangeCall g i.r) 0).run P w1 = .ok d w1 ∧ (invoke d.target d.args).run P w1 = .ok (.enter f args) w1 ∧
   CallsIn (FwR ro) 0 P f args w1 (rangePost (FwR ro) 0 P i.r Q { a with defers := mark ++ a.defers })) (rangeCall P (opv g tm) lb r tm df h1 nx1) := by
 cases hov : opv g tm with
 | func fn fa fb =>
  cases fn with
  | func f =>
   rw [hov] at hgv
   obtain ⟨a', b', hfe, ha, hb⟩ := hgv.funcI
   show Fut σ h nx w S nt ro _ (rangeGo (bodyO (fnAt P f)) f (fa.toList ++ (.func (.yield lb) #[] #[] :: fb.toList)) lb r tm df h1 nx1)
   rw [fnAt_eq]
   cases hbd : bodyO (P.funcs[f]?) with
   | false => trivial
   | true =>
    show Fut σ h nx w S nt ro _ (rangeEnd (r.call f (fa.toList ++ (.func (.yield lb) #[] #[] :: fb.toList)) h1 nx1) lb tm df)
    have hC := G.call f (fa.toList ++ (.func (.yield lb) #[] #[] :: fb.toList)) h1 nx1 σ1 w1 (a' ++ (.func (.yield i.r) #[] #[] :: b')) R1 hpos (ha.append (.cons _ _ _ _ (.yield lb i hlb) hb))
    cases hres : r.call f (fa.toList ++ (.func (.yield lb) #[] #[] :: fb.toList)) h1 nx1 with
    | no _ _ => trivial
    | ok v h2 nx2 =>
     rw [hres] at hC
     have hent : (callFunc f ⟨a' ++ (.func (.yield i.r) #[] #[] :: b')⟩).run P w1 = .ok (.enter f ⟨a' ++ (.func (.yield i.r) #[] #[] :: b')⟩) w1 ∧ CallsIn Fence.wide 0 P f ⟨a' ++ (.func (.yield i.r) #[] #[] :: b')⟩ w1 (Post σ1 h1 nx1 w1 v h2 nx2) := by
      rcases hC with ⟨v', w2, σ', hr, _⟩ | hC
      ·exact (body_enter hbd hr).elim
      ·exact hC
     have hresolve : (resolve a.eval (Go.rangeCall g i.r) 0).run P w1 = .ok { target := .fn (.func f) ⟨b'⟩, args := (⟨a'⟩ : Array Value) ++ #[.func (.yield i.r) #[] #[]] } w1 := by
      have hmap : (Go.rangeCall g i.r).args.map a.eval = #[.func (.yield i.r) #[] #[]] := by
       apply Array.ext'
       simp [Act.eval]
      unfold resolve
      rw [hmap]
      simp only [hfe]
      rfl
     have hinv : (invoke (.fn (.func f) ⟨b'⟩) ((⟨a'⟩ : Array Value) ++ #[.func (.yield i.r) #[] #[]])).run P w1 = .ok (.enter f ⟨a' ++ (.func (.yield i.r) #[] #[] :: b')⟩) w1 := by
      rw [← hent.1]
      show (callFunc f _).run P w1 = _
      congr 2
      simp
     show Fut σ h nx w S nt ro _ (rangeEnd1 (h2.get lb) lb tm df h2 nx2)
     cases hg2 : h2.get lb with
     | none => trivial
     | some ob =>
      cases ob with
      | loop st p fn0 tm0 n0 ps0 as0 bd0 d0 =>
       show Fut σ h nx w S nt ro _ (match isBusy st with | true => C.no "busy" "" | false => pendC p tm df (h2.set lb (.loop .exhausted p fn0 tm0 n0 ps0 as0 bd0 d0)) nx2)
       cases hbz : isBusy st with
       | true => trivial
       | false =>
        have fin : ∀ (Q : Exit → Act → World → Prop), (∀ σ' a' w', St σ' (h2.set lb (.loop .exhausted p fn0 tm0 n0 ps0 as0 bd0 d0)) nx2 w' S nt tm df a' ro → Fwd σ h w σ' (h2.set lb (.loop .exhausted p fn0 tm0 n0 ps0 as0 bd0 d0)) w' → nx ≤ nx2 →
          (match p with | none => Q .normal a' w' | some c => c.wpIn (FwR ro) 0 P Q a' w')) →
          ∃ d f args, (resolve a.eval (Go.rangeCall g i.r) 0).run P w1 = .ok d w1 ∧ (invoke d.target d.args).run P w1 = .ok (.enter f args) w1 ∧
           CallsIn (FwR ro) 0 P f args w1 (rangePost (FwR ro) 0 P i.r Q { a with defers := mark ++ a.defers }) := by
         intro Q hQ
         refine ⟨_, _, _, hresolve, hinv, CallsIn.mono (F := FwR ro) (n := 0) (R := Post σ1 h1 nx1 w1 v h2 nx2) hent.2 fun e w2 he => ?_⟩
         obtain ⟨v', σ2, he, R2, F2, hv, hn2⟩ := he
         subst he
         have hlb2 := F2.sub _ _ hlb
         obtain ⟨hlr, hor⟩ := R2.at_ hg2 hlb2
         obtain ⟨fn', id, tmps', hw2, hdef, hT⟩ := hor trivial
         have hend := run_endLoop (P := P) hw2 hbz
         have ho := R2.obj_turn (o' := .loop .exhausted p fn0 tm0 n0 ps0 as0 bd0 d0)
          (ob := .loop { state := .exhausted, pending := p, fn := fn', tmps := tmps', params := ps0, assign := as0, body := bd0, defers := id }) hg2 hlb2 rfl rfl rfl (fun x => x) trivial
          ⟨fn', id, tmps', set_at hw2, hdef, hT⟩
         refine ⟨p, _, hend, ?_⟩
         have hF := F1.trans (F2.trans ho.2)
         have hst : St σ2 (h2.set lb (.loop .exhausted p fn0 tm0 n0 ps0 as0 bd0 d0)) nx2 _ S nt tm df { a with defers := mark ++ a.defers } ro :=
          ⟨ho.1, by omega, hsn, T1.mono F2.sub, D1.mono F2.sub, ro1.mono F2.sub⟩
         have := hQ σ2 { a with defers := mark ++ a.defers } _ hst hF (by omega)
         cases p <;> exact this
        cases p with
        | none => exact fun Q hQ => fin Q fun σ' a' w' s f hn => hQ σ' a' w' s f hn
        | some c =>
         cases c with
         | ret => exact fun Q hQ => fin Q fun σ' a' w' s f hn => wpIn_ret (hQ σ' a' w' s f hn)
         | exit id => exact fun Q hQ => fin Q fun σ' a' w' s f hn => wpIn_exit (hQ σ' a' w' s f hn)
         | goto l => exact fun Q hQ => fin Q fun σ' a' w' s f hn => wpIn_goto (hQ σ' a' w' s f hn)
         | _ => trivial
      | _ => trivial
  | _ => trivial
 | _ => trivial
end
end Go.Proofs.YtpnaenbpffhjfaaGreatDoor.Ev

namespace Go.Proofs.YtpnaenbpffhjfaaGreatDoor.Ev
section
variable {P : Program} {nt : Nat}
theorem defersOf_some {o : Option AO} {d : Nat} (e : defersOf o = some d) : ∃ st p fn tm n ps a b, o = some (.loop st p fn tm n ps a b d) := by
 unfold defersOf at e
 split at e
 ·cases e; exact ⟨_, _, _, _, _, _, _, _, rfl⟩
 ·cases e
theorem loop_fresh {σ : Sg} {h : Hp} {nx : Nat} {w : World} (R : Rel σ h nx w) {tm : Tr Value} {tmps : Array Value} (T : TR σ nt tm tmps) {d : Nat} {j : BI} (hd : σ d = some j) (fn fn' : FuncId) (ps : Array Tmp) (asg body : Code) :
  ∃ i : BI, i.r = w.heap.size ∧
   Rel (Sg.add σ nx i) (h.set nx (.loop .ready none fn tm nt ps asg body d)) (nx + 1) { w with heap := w.heap.push (.loop { state := .ready, pending := none, fn := fn', tmps := tmps, params := ps, assign := asg, body := body, defers := j.r }) } ∧
   Fwd σ h w (Sg.add σ nx i) (h.set nx (.loop .ready none fn tm nt ps asg body d)) { w with heap := w.heap.push (.loop { state := .ready, pending := none, fn := fn', tmps := tmps, params := ps, assign := asg, body := body, defers := j.r }) } := by
 have hle := Sg.le_add (R.new nx (Nat.le_refl _)).1 { r := w.heap.size, shift := 0, fin := 0, esz := 0 }
 refine ⟨{ r := w.heap.size, shift := 0, fin := 0, esz := 0 }, rfl, ?_⟩
 exact R.fresh (id := nx) (nx' := nx + 1) (i := { r := w.heap.size, shift := 0, fin := 0, esz := 0 })
  (w1 := { w with heap := w.heap.push (.loop { state := .ready, pending := none, fn := fn', tmps := tmps, params := ps, assign := asg, body := body, defers := j.r }) })
  (ob := .loop { state := .ready, pending := none, fn := fn', tmps := tmps, params := ps, assign := asg, body := body, defers := j.r })
  (R.new nx (Nat.le_refl _)).1 (fun x => Nat.lt_irrefl _ (R.rsv nx x).1) (R.new nx (Nat.le_refl _)).2 (by omega) (by omega) rfl rfl rfl rfl (ao := .loop .ready none fn tm nt ps asg body d) rfl (fun x => x) rfl
  ⟨fn', j.r, tmps, by simp, ⟨j, hle _ _ hd, rfl⟩, T.mono hle⟩
theorem dfr_fresh {σ : Sg} {h : Hp} {nx : Nat} {w : World} (R : Rel σ h nx w) :
  ∃ i : BI, i.r = w.heap.size ∧ Rel (Sg.add σ nx i) (h.set nx (.dfr true)) (nx + 1) { w with heap := w.heap.push (.deferred (some [])) } ∧
   Fwd σ h w (Sg.add σ nx i) (h.set nx (.dfr true)) { w with heap := w.heap.push (.deferred (some [])) } := by
 refine ⟨{ r := w.heap.size, shift := 0, fin := 0, esz := 0 }, rfl, ?_⟩
 exact R.fresh (id := nx) (nx' := nx + 1) (i := { r := w.heap.size, shift := 0, fin := 0, esz := 0 }) (w1 := { w with heap := w.heap.push (.deferred (some [])) }) (ob := .deferred (some []))
  (R.new nx (Nat.le_refl _)).1 (fun x => Nat.lt_irrefl _ (R.rsv nx x).1) (R.new nx (Nat.le_refl _)).2 (by omega) (by omega) rfl rfl rfl rfl (ao := .dfr true) rfl (fun x => x) rfl (by simp [OR])
theorem fut_all {σ : Sg} {h : Hp} {nx : Nat} {w : World} {S : Sx} {ro : Option Nat} {res : C} {W : FuncId → (Exit → Act → World → Prop) → Prop} {V : (Exit → Act → World → Prop) → Prop}
  (hW : ∀ fn, Fut σ h nx w S nt ro (W fn) res) (hV : ∀ Q, (∀ fn, W fn Q) → V Q) : Fut σ h nx w S nt ro V res := by
 cases res with
 | no _ _ => trivial
 | ok e tm df h1 nx1 => exact fun Q hQ => hV Q fun fn => hW fn Q hQ
theorem range_good {g : Operand} {ps : Array Tmp} {asg body : Code} : KGood P nt (.rangeFunc g ps asg body) ⟨fun r S tm df h nx => rangeC P S.ro g ps asg body r S tm df h nx⟩ := by
 intro r G S ro tm df h nx σ w a s
 show Fut σ h nx w S nt ro _ (rangeC P S.ro g ps asg body r S tm df h nx)
 have hro := s.ro
 have hgv := VR.opv s.T g
 have hsn := s.snt
 cases hS : S.ro with
 | none =>
  rw [hS] at hro
  cases ro with
  | some _ => exact hro.elim
  | none =>
   show Fut σ h nx w S nt none _ (rangeCall P (opv g tm) (nx + 1) r tm (.mark nx :: df) ((h.set nx (.dfr true)).set (nx + 1) (.loop .ready none S.fn tm S.nt ps asg body nx)) (nx + 2))
   rw [hsn]
   obtain ⟨i0, hi0, R0, F0⟩ := dfr_fresh s.R
   refine fut_all (W := fun fn Q => ∃ (l : Nat) (mark : List Deferred) (w₁ : World) (d : Deferred) (w₁' : World) (f : FuncId) (args : Array Value) (w₂ : World),
    (Instr.enterLoop fn a.tmps ps asg body none).run P w = .ok (l, mark) w₁ ∧ (resolve a.eval (Go.rangeCall g l) 0).run P w₁ = .ok d w₁' ∧ (invoke d.target d.args).run P w₁' = .ok (.enter f args) w₂ ∧
    CallsIn (FwR none) 0 P f args w₂ (rangePost (FwR none) 0 P l Q { a with defers := mark ++ a.defers })) (fun fn => ?_) (fun Q hW => ?_)
   ·obtain ⟨i, hi, R1, F1⟩ := loop_fresh (nt := nt) R0 (s.T.mono F0.sub) (d := nx) (j := i0) (Sg.add_eq _ _ _) S.fn fn ps asg body
    have hle := F0.sub
    have hF := F0.trans F1
    have hD : DR (Sg.add (Sg.add σ nx i0) (nx + 1) i) (.mark nx :: df) ([{ target := .collected i0.r, args := #[] }] ++ a.defers) :=
     ⟨⟨i0, F1.sub _ _ (Sg.add_eq _ _ _), rfl⟩, s.D.mono hF.sub⟩
    refine (range_tail (P := P) (nt := nt) G R1 hF (by omega) (by omega) (Sg.add_eq _ _ _) (hgv.mono hF.sub) (s.T.mono hF.sub) hD (by rw [hS]; trivial) hsn).mono fun Q hQ => ?_
    obtain ⟨d, f, args, e1, e2, e3⟩ := hQ
    refine ⟨i.r, [{ target := .collected i0.r, args := #[] }], _, d, _, f, args, _, ?_, e1, e2, e3⟩
    rw [hi, hi0]
    show Result.ok _ _ = _
    rfl
   ·refine wpIn_rangeFunc fun fn _ => ?_
    obtain ⟨l, mark, w₁, d, w₁', f, args, w₂, e1, e2, e3, e4⟩ := hW fn
    exact ⟨l, mark, w₁, d, w₁', f, args, w₂, e1, e2, fun _ _ => trivial, e3, fun hh => (by cases hh), e4⟩
 | some o =>
  rw [hS] at hro
  cases ro with
  | none => exact hro.elim
  | some lo =>
   obtain ⟨io, hio, hir⟩ := hro
   show Fut σ h nx w S nt (some lo) _ (rangeIn P (defersOf (h.get o)) g ps asg body r S tm df h nx)
   cases hd : defersOf (h.get o) with
   | none => trivial
   | some d =>
    obtain ⟨st, p, fn0, tm0, n0, ps0, as0, bd0, hgo⟩ := defersOf_some hd
    obtain ⟨_, hor⟩ := s.R.at_ hgo hio
    obtain ⟨fn1, id, tmps1, hw1, ⟨j, hj, hjr⟩, hT1⟩ := hor trivial
    show Fut σ h nx w S nt (some lo) _ (rangeCall P (opv g tm) nx r tm df (h.set nx (.loop .ready none S.fn tm S.nt ps asg body d)) (nx + 1))
    rw [hsn]
    refine fut_all (W := fun fn Q => ∃ (l : Nat) (mark : List Deferred) (w₁ : World) (d : Deferred) (w₁' : World) (f : FuncId) (args : Array Value) (w₂ : World),
     (Instr.enterLoop fn a.tmps ps asg body (some lo)).run P w = .ok (l, mark) w₁ ∧ (resolve a.eval (Go.rangeCall g l) 0).run P w₁ = .ok d w₁' ∧ (invoke d.target d.args).run P w₁' = .ok (.enter f args) w₂ ∧
     CallsIn (FwR (some lo)) 0 P f args w₂ (rangePost (FwR (some lo)) 0 P l Q { a with defers := mark ++ a.defers })) (fun fn => ?_) (fun Q hW => ?_)
    ·obtain ⟨i, hi, R1, F1⟩ := loop_fresh (nt := nt) s.R s.T (d := d) (j := j) hj S.fn fn ps asg body
     refine (range_tail (P := P) (nt := nt) (mark := []) G R1 F1 (by omega) (by omega) (Sg.add_eq _ _ _) (hgv.mono F1.sub) (s.T.mono F1.sub) (s.D.mono F1.sub) (by rw [hS]; exact ⟨io, F1.sub _ _ hio, hir⟩) hsn).mono fun Q hQ => ?_
     obtain ⟨d, f, args, e1, e2, e3⟩ := hQ
     refine ⟨i.r, [], _, d, _, f, args, _, ?_, e1, e2, e3⟩
     rw [hir] at hw1
     unfold Instr.enterLoop
     simp only
     rw [run_b (run_getLoop hw1)]
     rw [hi, ← hjr]
     rfl
    ·refine wpIn_rangeFunc fun fn _ => ?_
     obtain ⟨l, mark, w₁, d, w₁', f, args, w₂, e1, e2, e3, e4⟩ := hW fn
     exact ⟨l, mark, w₁, d, w₁', f, args, w₂, e1, e2, fun _ _ => trivial, e3, fun hh => (by cases hh), e4⟩
end
end Go.Proofs.YtpnaenbpffhjfaaGreatDoor.Ev

namespace Go.Proofs.YtpnaenbpffhjfaaGreatDoor.Ev
section
variable {P : Program} {nt : Nat}
def DrawGood (P : Program) : Prop := ∀ (nt id : Nat) (ops : Array Oper), KGood P nt (.region id ops true) (cRegion P nt ops.toList true)
theorem code_good (hd : DrawGood P) (sc : Code → KC) (hsc : ∀ b, KGood P nt (.scope b) (sc b)) : ∀ c, KGood P nt c (cCode P nt sc c) := by
 intro c
 induction c with
 | skip => exact fun r G S ro tm df h nx σ w a s => Fut.done s .normal fun Q hq => wpIn_skip hq
 | label l => exact fun r G S ro tm df h nx σ w a s => Fut.done s .normal fun Q hq => wpIn_label hq
 | exit id => exact fun r G S ro tm df h nx σ w a s => Fut.done s (.exit id) fun Q hq => wpIn_exit hq
 | goto l => exact fun r G S ro tm df h nx σ w a s => Fut.done s (.goto l) fun Q hq => wpIn_goto hq
 | ret => exact fun r G S ro tm df h nx σ w a s => Fut.done s .ret fun Q hq => wpIn_ret hq
 | seq x y hx hy => exact seqc_good hx hy
 | cond v x y hx hy => exact cond_good hx hy
 | block id b hb => exact block_good hb
 | loop b hb => exact loop_good hb
 | scope b hb => exact hsc b
 | region id ops draw =>
  cases draw with
  | false => exact region_good
  | true => exact hd nt id ops
 | rangeFunc g ps a b ha hb => exact range_good
 | refuse w => exact fun r G S ro tm df h nx σ w a s => trivial
theorem cScope_good (hd : DrawGood P) : ∀ (n : Nat) (b : Code), KGood P nt (.scope b) (cScope P nt n b) := by
 intro n
 induction n with
 | zero => exact fun b r G S ro tm df h nx σ w a s => trivial
 | succ n ih => exact fun b => scope_good (cScope P nt n) (fun c => code_good hd _ ih c) b
theorem body_good (hd : DrawGood P) (c : Code) : KGood P nt c (cBody P nt c) := code_good hd _ (fun b => cScope_good hd 8 b) c

theorem run_take {w : World} {r : Nat} (hw : w.heap[r]? = some (.deferred (some []))) : (Instr.takeDeferred r).run P w = .ok [] { w with heap := w.heap.setIfInBounds r (.deferred none) } := by
 have hgo : (getObj r).run P w = .ok (.deferred (some [])) w := run_getObj hw (by intros; simp)
 unfold Instr.takeDeferred
 rw [run_b hgo]
 simp only
 rw [run_b (run_setObj hw (by intros; simp))]
 rfl
theorem invoke_func {P : Program} {g : FuncId} {cap as' : Array Value} : invoke (.fn (.func g) cap) as' = callFunc g (as' ++ cap) := rfl
theorem leaves_good {fn : Func} {tmps : Array Value} {R : Ending → World → Prop} {r : Rec} (G : RecGood P r) : ∀ (df : List DfE) (ds : List Deferred) (h h' : Hp) (nx nx' : Nat) (σ : Sg) (w : World) (u : Value), DR σ df ds → Rel σ h nx w → 1 ≤ nx → evEnd r df h nx = .ok u h' nx' →
  (∀ σ' w', Rel σ' h' nx' w' → Fwd σ h w σ' h' w' → nx ≤ nx' → ∃ v, (results fn tmps).run P w' = .ok v w' ∧ R (.returned v) w') → LeavesInM Fence.wide 0 P fn tmps R ds .returning w
 | [], [], h, h', nx, nx', σ, w, u, _, hR, _, e, K => by
  cases e
  exact K σ w hR (Fwd.refl _ _ _) (Nat.le_refl _)
 | .mark b :: df, d :: ds, h, h', nx, nx', σ, w, u, hD, hR, hpos, e, K => by
  obtain ⟨⟨i, hi, hde⟩, hD'⟩ := hD
  change evEndM (h.get b) (evEnd r df) b h nx = .ok u h' nx' at e
  unfold evEndM at e
  split at e
  ·rename_i hg
   obtain ⟨_, hor⟩ := hR.at_ hg hi
   have hw : w.heap[i.r]? = some (.deferred (some [])) := hor trivial
   have ho := hR.obj_turn (o' := .dfr false) (ob := .deferred none) hg hi rfl rfl rfl (fun x => x) trivial (set_at hw)
   subst hde
   refine ⟨by simp, .inl ⟨i.r, _, rfl, run_take hw, ?_⟩⟩
   exact leaves_good G df ds (h.set b (.dfr false)) h' nx nx' σ _ u hD' ho.1 hpos e fun σ' w' r1 f1 => K σ' w' r1 (ho.2.trans f1)
  ·cases e
 | .call g args :: df, d :: ds, h, h', nx, nx', σ, w, u, hD, hR, hpos, e, K => by
  obtain ⟨⟨cap, as', hde, hvr⟩, hD'⟩ := hD
  change evEndC (r.callD g args h nx) (evEnd r df) = .ok u h' nx' at e
  have hC := G.callD g args h nx σ w (as'.toList ++ cap.toList) hR hpos hvr
  cases hres : r.callD g args h nx with
  | no _ _ => rw [hres] at e; cases e
  | ok v h1 nx1 =>
   rw [hres] at e hC
   change evEnd r df h1 nx1 = .ok u h' nx' at e
   obtain ⟨hrun, hcall⟩ := hC
   subst hde
   have happ : as' ++ cap = ⟨as'.toList ++ cap.toList⟩ := by apply Array.ext'; simp
   refine ⟨by simp, .inr ⟨fun hh => (by cases hh), .func g, cap, g, ⟨as'.toList ++ cap.toList⟩, rfl, ?_, fun _ _ => trivial, ?_⟩⟩
   ·show (invoke (.fn (.func g) cap) as').run P w = _
    rw [show invoke (.fn (.func g) cap) as' = callFunc g (as' ++ cap) from rfl, happ]
    exact hrun
   ·refine CallsDIn.mono hcall fun e1 u1 w1 he => ?_
    obtain ⟨hu, v', σ1, he1, R1, F1, _, hn1⟩ := he
    subst hu he1
    exact leaves_good G df ds h1 h' nx1 nx' σ1 w1 u (DR.mono F1.sub.fn hD') R1 (Nat.le_trans hpos hn1) e fun σ' w' r1 f1 hn => K σ' w' r1 (F1.trans f1) (Nat.le_trans hn1 hn)
 | [], _ :: _, _, _, _, _, _, _, _, hD, _, _, _, _ => hD.elim
 | _ :: _, [], _, _, _, _, _, _, _, hD, _, _, _, _ => hD.elim
end
end Go.Proofs.YtpnaenbpffhjfaaGreatDoor.Ev

namespace Go.Proofs.YtpnaenbpffhjfaaGreatDoor.Ev
section
variable {P : Program} {nt : Nat}
theorem load_res {σ : Sg} {h : Hp} {nx : Nat} {w : World} (R : Rel σ h nx w) {t : TypeId} {v v' u : Value} (e : resCell P t v h = some u) (hv : VR σ v v') :
  ∃ u', ((do loadVar t (← asAddr v')) : Sem Value).run P w = .ok u' w ∧ VR σ u u' := by
 unfold resCell evLoad at e
 cases hs : shapeT P t with
 | none => rw [hs] at e; cases e
 | some q =>
  obtain ⟨ag, n⟩ := q
  rw [hs] at e
  simp only at e
  cases hp : ptrO v with
  | none => rw [hp] at e; cases e
  | some ad =>
   rw [hp] at e
   simp only at e
   obtain ⟨hve, hsp⟩ := ptrO_some hp
   rw [hve] at hv
   obtain ⟨_, i, hi, hv'⟩ := hv.ptrI
   subst hv'
   have has : (asAddr (.pointer (some ⟨i.r, i.shift + ad.off, none⟩))).run P w = .ok ⟨i.r, i.shift + ad.off, none⟩ w := rfl
   unfold loadSh at e
   cases ag with
   | true =>
    simp only at e
    cases hl : loadC h ad.block ad.off n with
    | none => rw [hl] at e; cases e
    | some l =>
     rw [hl] at e
     cases e
     obtain ⟨l', h1, h2⟩ := load_sound P R hl hi
     refine ⟨.agg l'.toArray, ?_, .agg l l' h2⟩
     rw [run_b has, run_loadVar hs]
     simp only
     rw [run_b h1]; rfl
   | false =>
    simp only at e
    cases hl : loadC h ad.block ad.off 1 with
    | none => rw [hl] at e; cases e
    | some l =>
     rw [hl] at e
     have hlen := loadC_length hl
     match l, hlen with
     | [x], _ =>
      cases e
      obtain ⟨u', h1, h2⟩ := load_one P R hl hi
      refine ⟨u', ?_, h2⟩
      rw [run_b has, run_loadVar hs]
      exact h1
theorem results_list {σ : Sg} {h : Hp} {nx : Nat} {w : World} (R : Rel σ h nx w) {tm : Tr Value} {tmps : Array Value} (T : TR σ nt tm tmps) : ∀ (rs : List ResultVar) (vs : List Value), evResults P rs tm h = some vs →
  ∃ vs', (rs.mapM (m := Sem) fun
   | .tmp t => pure (tmps.getD t undef)
   | .cell a t => do loadVar t (← asAddr (tmps.getD a undef))).run P w = .ok vs' w ∧ VRL σ vs vs'
 | [], vs, e => by cases e; exact ⟨[], rfl, .nil⟩
 | x :: rs, vs, e => by
  change (match resOne P x tm h with | some v => (match evResults P rs tm h with | some vs => some (v :: vs) | none => none) | none => none) = some vs at e
  cases hx : resOne P x tm h with
  | none => rw [hx] at e; cases e
  | some v =>
   rw [hx] at e
   simp only at e
   cases hr : evResults P rs tm h with
   | none => rw [hr] at e; cases e
   | some ws =>
    rw [hr] at e
    cases e
    obtain ⟨ws', h1, h2⟩ := results_list R T rs ws hr
    have hone : ∃ v', ((fun x : ResultVar => (match x with
      | .tmp t => pure (tmps.getD t undef)
      | .cell a t => do loadVar t (← asAddr (tmps.getD a undef)) : Sem Value)) x).run P w = .ok v' w ∧ VR σ v v' := by
     cases x with
     | tmp t => exact ⟨_, rfl, T.2 t v hx⟩
     | cell b t =>
      change (match tm.get b with | some v => resCell P t v h | none => none) = some v at hx
      cases hb : tm.get b with
      | none => rw [hb] at hx; cases hx
      | some u => rw [hb] at hx; exact load_res R hx (T.2 b u hb)
    obtain ⟨v', h3, h4⟩ := hone
    refine ⟨v' :: ws', ?_, .cons _ _ _ _ h4 h2⟩
    rw [List.mapM_cons]
    refine (run_b h3).trans ?_
    refine (run_b h1).trans ?_
    rfl
theorem results_good {σ : Sg} {h : Hp} {nx : Nat} {w : World} (R : Rel σ h nx w) {tm : Tr Value} {tmps : Array Value} (T : TR σ nt tm tmps) {fn : Func} {v : Value} {h' : Hp} {nx' : Nat}
  (e : resV (evResults P fn.results.toList tm h) h nx = .ok v h' nx') : h' = h ∧ nx' = nx ∧ ∃ v', (results fn tmps).run P w = .ok v' w ∧ VR σ v v' := by
 cases hr : evResults P fn.results.toList tm h with
 | none => rw [hr] at e; cases e
 | some vs =>
  rw [hr] at e
  obtain ⟨vs', h1, h2⟩ := results_list R T _ vs hr
  have hrun : ∀ u : Value, (if hh : (⟨vs'⟩ : Array Value).size = 1 then (⟨vs'⟩ : Array Value)[0] else Value.tuple ⟨vs'⟩) = u → (results fn tmps).run P w = .ok u w := by
   intro u hu
   unfold results
   rw [Array.mapM_eq_mapM_toList]
   have : ((Array.mk <$> fn.results.toList.mapM (m := Sem) fun
    | .tmp t => pure (tmps.getD t undef)
    | .cell a t => do loadVar t (← asAddr (tmps.getD a undef))) : Sem (Array Value)).run P w = .ok ⟨vs'⟩ w := by
    show Sem.run P (_ >>= _) w = _
    refine (run_b h1).trans ?_
    rfl
   refine (run_b this).trans ?_
   rw [← hu]
   rfl
  cases h2 with
  | nil => cases e; exact ⟨rfl, rfl, .tuple ⟨[]⟩, hrun _ rfl, .tuple [] [] .nil⟩
  | cons x x' l l' hx hl =>
   cases hl with
   | nil => cases e; exact ⟨rfl, rfl, x', hrun _ rfl, hx⟩
   | cons y y' l l' hy hl =>
    cases e
    refine ⟨rfl, rfl, .tuple ⟨x' :: y' :: l'⟩, hrun _ ?_, .tuple _ _ (.cons _ _ _ _ hx (.cons _ _ _ _ hy hl))⟩
    rw [dif_neg (by simp)]
end
end Go.Proofs.YtpnaenbpffhjfaaGreatDoor.Ev

namespace Go.Proofs.YtpnaenbpffhjfaaGreatDoor.Ev
section
variable {P : Program} {nt : Nat}
def Outs (σ : Sg) (h : Hp) (nx : Nat) (w : World) (S : Sx) (nt : Nat) (ro : Option Nat) (Q : Exit → Act → World → Prop) : FC → Prop
 | .no _ _ => False
 | .ok e tm' df' h' nx' => ∀ σ' a' w', St σ' h' nx' w' S nt tm' df' a' ro → Fwd σ h w σ' h' w' → nx ≤ nx' → Q (exitOf e) a' w'
 | .fork a b => Outs σ h nx w S nt ro Q a ∧ Outs σ h nx w S nt ro Q b
def FutF (σ : Sg) (h : Hp) (nx : Nat) (w : World) (S : Sx) (nt : Nat) (ro : Option Nat) (W : (Exit → Act → World → Prop) → Prop) (c : FC) : Prop :=
 ∀ Q, Outs σ h nx w S nt ro Q c → W Q
def FGood (P : Program) (nt : Nat) (c : Code) (k : KFC) : Prop :=
 ∀ r, RecGood P r → ∀ S ro tm df h nx σ w a, St σ h nx w S nt tm df a ro → FutF σ h nx w S nt ro (fun Q => c.wpIn (FwR ro) 0 P Q a w) (k.f r S tm df h nx)
def FSeq (P : Program) (ops : Array Oper) (idx : List Nat) (nt : Nat) (k : KFC) : Prop :=
 ∀ r, RecGood P r → ∀ S ro tm df h nx σ w a, St σ h nx w S nt tm df a ro → FutF σ h nx w S nt ro (fun Q => wpOpsIn (FwR ro) 0 P ops Q idx a w) (k.f r S tm df h nx)
variable {σ : Sg} {h : Hp} {nx : Nat} {w : World} {S : Sx} {ro : Option Nat}
theorem Outs.shift {Q : Exit → Act → World → Prop} {σ1 : Sg} {h1 : Hp} {nx1 : Nat} {w1 : World} (F : Fwd σ h w σ1 h1 w1) (hn : nx ≤ nx1) : ∀ {c : FC}, Outs σ h nx w S nt ro Q c → Outs σ1 h1 nx1 w1 S nt ro Q c
 | .no _ _, h => h
 | .ok _ _ _ _ _, h => fun σ' a' w' s f hn2 => h σ' a' w' s (F.trans f) (Nat.le_trans hn hn2)
 | .fork a b, h => ⟨Outs.shift F hn h.1, Outs.shift F hn h.2⟩
theorem FutF.of {W : (Exit → Act → World → Prop) → Prop} {c : C} (hf : Fut σ h nx w S nt ro W c) : FutF σ h nx w S nt ro W (embC c) := by
 intro Q hO
 cases c with
 | no _ _ => exact hO.elim
 | ok e tm df h1 nx1 => exact hf Q hO
theorem FutF.mono {W V : (Exit → Act → World → Prop) → Prop} {c : FC} (hf : FutF σ h nx w S nt ro W c) (hV : ∀ Q, W Q → V Q) : FutF σ h nx w S nt ro V c := fun Q hO => hV Q (hf Q hO)
theorem FutF.fork1 {W : (Exit → Act → World → Prop) → Prop} {a b : FC} (hf : FutF σ h nx w S nt ro W a) : FutF σ h nx w S nt ro W (.fork a b) := fun Q hO => hf Q hO.1
theorem FutF.fork2 {W : (Exit → Act → World → Prop) → Prop} {a b : FC} (hf : FutF σ h nx w S nt ro W b) : FutF σ h nx w S nt ro W (.fork a b) := fun Q hO => hf Q hO.2
theorem unk_of {n : Nat} {v v' : Value} (hv : VR σ v v') (hu : unkN v = n + 1) (h5 : n < 5) : ∃ a, UnkOK (n + 1) a v' := by
 cases hv with
 | unk m s a b _ h => change m = n + 1 at hu; subst hu; exact ⟨a, h⟩
 | long => change 6 = n + 1 at hu; omega
 | fz => change 7 = n + 1 at hu; omega
 | fp => change 8 = n + 1 at hu; omega
 | base _ hb => cases v <;> first | (cases hu; done) | (cases hb)
 | _ => cases hu
theorem unk_bool {v v' : Value} (hv : VR σ v v') (hu : Nat.beq (unkN v) 2 = true) : ∃ b, v' = .bool b := let ⟨_, h⟩ := unk_of (n := 1) hv (beq_true.1 hu) (by decide); h
def Wk (v u : Value) : Prop := ∀ (σ : Sg) (v' : Value), VR σ v v' → VR σ u v'
theorem boolish_bool {σ : Sg} {v v' : Value} (hv : VR σ v v') (hb : boolish v = true) : ∃ b, v' = .bool b := by
 cases v with
 | bool b => exact ⟨b, hv.bool⟩
 | _ => exact unk_bool hv hb
theorem joinV_wk (v u : Value) : Wk v (joinV v u) ∧ Wk u (joinV v u) := by
 unfold joinV
 cases hs : sameV v u with
 | true =>
  have := sameV_eq _ _ hs
  subst this
  exact ⟨fun _ _ h => h, fun _ _ h => h⟩
 | false =>
  simp only
  cases hb : (boolish v && boolish u) with
  | false => exact ⟨fun _ v' _ => .bad 0 v', fun _ v' _ => .bad 0 v'⟩
  | true =>
   simp only [Bool.and_eq_true] at hb
   exact ⟨fun _ v' h => .unk 2 "" _ _ _ (boolish_bool h hb.1), fun _ v' h => .unk 2 "" _ _ _ (boolish_bool h hb.2)⟩
theorem isI_int {v v' : Value} (hv : VR σ v v') (hi : isI v = true) : ∃ n, v' = .int .i64 n := by
 by_cases hc : ∃ n, v = .int .i64 n
 ·obtain ⟨n, rfl⟩ := hc
  exact ⟨n, hv.int⟩
 ·unfold isI at hi
  split at hi
  ·exact absurd ⟨_, rfl⟩ hc
  ·cases h1 : Nat.beq (unkN v) 1 with
   | true =>
    obtain ⟨_, h⟩ := unk_of (n := 0) hv (beq_true.1 h1) (by decide)
    exact h
   | false =>
    rw [h1] at hi
    obtain ⟨_, i, h, _⟩ := unk_of (n := 4) hv (beq_true.1 hi) (by decide)
    exact ⟨i, h⟩
theorem lightU_good {o : Oper} {tm : Tr Value} {a : Act} (T : TR σ nt tm a.tmps) :
  match lightU P o.op tm with
  | .no => True
  | .val v => ∃ v', VR σ v v' ∧ ∀ (next : Act → World → Prop) (Q : Exit → Act → World → Prop), next (a.put o.dst v') w → o.wpIn (FwR ro) 0 P a w next Q
  | .mk _ _ => False := by
 have fin : ∀ v', (∀ c, o.op ≠ .defer c) → (execOp a.eval o).run P w = .ok (.value v') w → ∀ (next : Act → World → Prop) (Q : Exit → Act → World → Prop), next (a.put o.dst v') w → o.wpIn (FwR ro) 0 P a w next Q := by
  intro v' hnd hr next Q hn
  refine ⟨fun _ _ => trivial, ?_⟩
  rw [Oper.semAt_eq _ _ _ hnd, hr]
  exact hn
 cases ho : o.op with
 | binOp op t x y u =>
  show match (match isCmp op && (isI (opv x tm) && isI (opv y tm)) with | true => L.val (unk 2) | false => L.no) with | .no => True | .val v => _ | .mk _ _ => False
  cases hc : (isCmp op && (isI (opv x tm) && isI (opv y tm))) with
  | false => trivial
  | true =>
   simp only [Bool.and_eq_true] at hc
   obtain ⟨n, hn⟩ := isI_int (VR.opv T x) hc.2.1
   obtain ⟨m, hm⟩ := isI_int (VR.opv T y) hc.2.2
   let A : BinA := { P, op, t, ox := x, oy := y }
   have hg : BGood P A σ (.int .i64 n) (.int .i64 m) w (binII A .i64 n .i64 m) := bin_int A rfl .i64 .i64 n m w
   have hb : ∃ b, binII A .i64 n .i64 m = .val (.bool b) := by
    unfold binII
    cases op <;> first | exact ⟨_, rfl⟩ | (exfalso; cases hc.1)
   obtain ⟨b, hb⟩ := hb
   rw [hb] at hg
   obtain ⟨v', h1, h2⟩ := hg
   have h2 := h2.bool
   subst h2
   refine ⟨.bool b, .unk 2 "" _ _ _ ⟨b, rfl⟩, fin _ (fun c hh => by rw [ho] at hh; cases hh) ?_⟩
   exact bin_exec ho (by rw [hn, hm]; exact h1)
 | unOp op t x =>
  cases op <;> try trivial
  show match (match Nat.beq (unkN (opv x tm)) 2 with | true => L.val (unk 2) | false => L.no) with | .no => True | .val v => _ | .mk _ _ => False
  cases hc : Nat.beq (unkN (opv x tm)) 2 with
  | false => trivial
  | true =>
   obtain ⟨b, hb⟩ := unk_bool (VR.opv T x) hc
   refine ⟨.bool (!b), .unk 2 "" _ _ _ ⟨_, rfl⟩, fin _ (fun c hh => by rw [ho] at hh; cases hh) ?_⟩
   have he : execOp a.eval o = (do pure (Next.value (← Op.unary .not (a.eval x)))) := by unfold execOp; simp only [ho]
   rw [he, hb]
   rfl
 | pick c x y =>
  show match (match Nat.beq (unkN (opv c tm)) 2 with | true => L.val (joinV (opv x tm) (opv y tm)) | false => L.no) with | .no => True | .val v => _ | .mk _ _ => False
  cases hc : Nat.beq (unkN (opv c tm)) 2 with
  | false => trivial
  | true =>
   obtain ⟨b, hb⟩ := unk_bool (VR.opv T c) hc
   have he : execOp a.eval o = (do pure (Next.value (if ← asBool (a.eval c) then a.eval x else a.eval y))) := by unfold execOp; simp only [ho]
   have hj := joinV_wk (opv x tm) (opv y tm)
   cases b with
   | true => exact ⟨a.eval x, hj.1 _ _ (VR.opv T x), fin _ (fun c hh => by rw [ho] at hh; cases hh) (by rw [he, hb]; rfl)⟩
   | false => exact ⟨a.eval y, hj.2 _ _ (VR.opv T y), fin _ (fun c hh => by rw [ho] at hh; cases hh) (by rw [he, hb]; rfl)⟩
 | _ => trivial
theorem foper_good {ops : Array Oper} {rest : List Nat} {o : Oper} {p : KP} {k : KFC} {place : String} (hnd : isDefer o.op = false) (hp : cPut nt o.dst = some p) (hk : FSeq P ops rest nt k) {r : Rec} (G : RecGood P r)
  {tm : Tr Value} {df : List DfE} {h : Hp} {nx : Nat} {σ : Sg} {w : World} {a : Act} (s : St σ h nx w S nt tm df a ro) :
  FutF σ h nx w S nt ro (fun Q => o.wpIn (FwR ro) 0 P a w (wpOpsIn (FwR ro) 0 P ops Q rest) Q) ((fOper P (heavy o.op) o.op place p k).f r S tm df h nx) := by
 have last : ∀ σ' h' nx' w1 v v', Rel σ' h' nx' w1 → Fwd σ h w σ' h' w1 → VR σ' v v' → nx ≤ nx' → ∀ Q, Outs σ h nx w S nt ro Q (k.f r S (p.f tm v) df h' nx') → wpOpsIn (FwR ro) 0 P ops Q rest (a.put o.dst v') w1 := by
  intro σ' h' nx' w1 v v' R' F' hv hn Q hO
  exact hk r G S ro (p.f tm v) df h' nx' σ' w1 (a.put o.dst v') (s.next R' F' hn (cPut_good hp (TR.mono F'.sub s.T) hv) (put_defers _ _ _)) Q (hO.shift F' hn)
 cases hh : heavy o.op with
 | true =>
  show FutF σ h nx w S nt ro _ (fHeavyK ((cHeavy P o.op).f r tm h nx) p k r S tm df)
  have hG := cHeavy_good (P := P) (o := o) (a := a) (ro := ro) G s.pos s.R s.T
  cases hres : (cHeavy P o.op).f r tm h nx with
  | no _ _ => exact fun Q hO => hO.elim
  | ok v h' nx' =>
   rw [hres] at hG
   intro Q hO
   exact hG _ Q fun σ' v' w1 R' F' hv hn => last σ' h' nx' w1 v v' R' F' hv hn Q hO
 | false =>
  show FutF σ h nx w S nt ro _ (fLightK (orU ((cLight P o.op).f tm h nx) (lightU P o.op tm)) place p k r S tm df h nx)
  have hL := light_step (P := P) (o := o) (ro := ro) s.R s.T
  cases hres : (cLight P o.op).f tm h nx with
  | no =>
   have hU := lightU_good (P := P) (o := o) (ro := ro) (w := w) s.T
   show FutF σ h nx w S nt ro _ (fLightK (lightU P o.op tm) place p k r S tm df h nx)
   cases hu : lightU P o.op tm with
   | no => exact fun Q hO => hO.elim
   | mk _ _ => rw [hu] at hU; exact hU.elim
   | val v =>
    rw [hu] at hU
    obtain ⟨v', hv, hK⟩ := hU
    exact fun Q hO => hK _ Q (last σ h nx w v v' s.R (Fwd.refl _ _ _) hv (Nat.le_refl _) Q hO)
  | val v =>
   rw [hres] at hL
   obtain ⟨v', hv, hK⟩ := hL
   exact fun Q hO => hK _ Q (last σ h nx w v v' s.R (Fwd.refl _ _ _) hv (Nat.le_refl _) Q hO)
  | mk v ao =>
   rw [hres] at hL
   show FutF σ h nx w S nt ro _ (fLaid (aliased ao h nx) place fun h => k.f r S (p.f tm v) df h (Nat.succ nx))
   cases hal : aliased ao h nx with
   | no => exact fun Q hO => hO.elim
   | ok h' =>
    obtain ⟨v', w1, σ', R', F', hv, hK⟩ := hL h' hal
    exact fun Q hO => hK _ Q (last σ' h' (nx + 1) w1 v v' R' F' hv (by omega) Q hO)
theorem fGuard2_good {W : (Exit → Act → World → Prop) → Prop} {u : Bool} {place : String} {x y : FC} (h1 : u = true → FutF σ h nx w S nt ro W x ∨ FutF σ h nx w S nt ro W y) : FutF σ h nx w S nt ro W (fGuard2 u place x y) := by
 cases u with
 | false => exact fun Q hO => hO.elim
 | true =>
  rcases h1 rfl with h1 | h1
  ·exact h1.fork1
  ·exact h1.fork2
theorem TR.know {tm : Tr Value} {tmps : Array Value} (T : TR σ nt tm tmps) {d : Nat} {v : Value} (hv : VR σ v (tmps.getD d undef)) : TR σ nt (tm.set d v) tmps := by
 refine ⟨T.1, fun t u hu => ?_⟩
 rw [Tr.get_set] at hu
 by_cases e : d = t
 ·rw [if_pos e] at hu; cases hu; rw [← e]; exact hv
 ·rw [if_neg e] at hu; exact T.2 t u hu
theorem St.know {tm : Tr Value} {df : List DfE} {a : Act} (s : St σ h nx w S nt tm df a ro) {d : Nat} {v : Value} (hv : VR σ v (a.tmps.getD d undef)) : St σ h nx w S nt (tm.set d v) df a ro := ⟨s.R, s.pos, s.snt, s.T.know hv, s.D, s.ro⟩
theorem fone_good {ops : Array Oper} {i : Nat} {rest : List Nat} {o : Oper} {k : KFC} (ho : ops[i]? = some o) (hk : FSeq P ops rest nt k) : FSeq P ops (i :: rest) nt (fOne P nt ops.toList o k) := by
 intro r G S ro tm df h nx σ w a s
 unfold fOne
 cases hp : cPut nt o.dst with
 | none => exact fun Q hO => hO.elim
 | some p =>
  simp only
  have yes : ∀ tm, St σ h nx w S nt tm df a ro → Region.wanted o (yielded ops a.tmps) = true → FutF σ h nx w S nt ro (fun Q => wpOpsIn (FwR ro) 0 P ops Q (i :: rest) a w) ((fDf P o.op (plc o) p k).f r S tm df h nx) := fun tm s hwd => by
   unfold fDf
   cases hd : isDefer o.op with
   | true => exact fun Q hO => hO.elim
   | false =>
    refine (foper_good (place := (plc o)) hd hp hk G s).mono fun Q h1 => ?_
    simp only [wpOpsIn, ho, hwd, if_true]
    exact h1
  have no : ∀ tm, St σ h nx w S nt tm df a ro → Region.wanted o (yielded ops a.tmps) = false → FutF σ h nx w S nt ro (fun Q => wpOpsIn (FwR ro) 0 P ops Q (i :: rest) a w) ((fSkip p k).f r S tm df h nx) := fun tm s hwd => by
   have h1 := hk r G S ro (p.f tm undef) df h nx σ w (a.put o.dst undef) (s.next s.R (Fwd.refl _ _ _) (Nat.le_refl _) (cPut_good hp s.T VR.undef) (put_defers _ _ _))
   refine FutF.mono h1 fun Q h2 => ?_
   simp only [wpOpsIn, ho, hwd, Bool.false_eq_true, if_false]
   exact ⟨fun _ _ => trivial, h2⟩
  unfold fGuarded
  cases hg : o.guard with
  | none => exact yes tm s (by unfold Region.wanted; rw [hg])
  | some q =>
   obtain ⟨j, want⟩ := q
   show FutF σ h nx w S nt ro _ (match (cGuardD want (gdst ops.toList j)).f tm with
    | some true => (fDf P o.op (plc o) p k).f r S tm df h nx
    | some false => (fSkip p k).f r S tm df h nx
    | none => fGuard2 (unkG (gdst ops.toList j) tm) (plc o) ((fDf P o.op (plc o) p k).f r S (knowD (gdst ops.toList j) want tm) df h nx) ((fSkip p k).f r S (knowD (gdst ops.toList j) (nb want) tm) df h nx))
   cases hgd : (cGuardD want (gdst ops.toList j)).f tm with
   | none =>
    refine fGuard2_good fun hu => ?_
    cases hd : gdst ops.toList j with
    | none => rw [hd] at hu; cases hu
    | some d =>
     rw [hd] at hu
     change (match tm.get d with | some v => Nat.beq (unkN v) 2 | none => false) = true at hu
     cases hv : tm.get d with
     | none => rw [hv] at hu; cases hu
     | some v =>
      rw [hv] at hu
      obtain ⟨b, hb⟩ := unk_bool (s.T.2 d v hv) hu
      have s2 : St σ h nx w S nt (tm.set d (.bool b)) df a ro := s.know (by rw [hb]; exact VR.b b)
      have hw : Region.wanted o (yielded ops a.tmps) = eqBool b want := guard_good hg s2.T (b := eqBool b want) (by
       rw [hd]
       show isBO want ((tm.set d (.bool b)).get d) = _
       rw [Tr.get_set_eq]; rfl)
      have hk : ∀ c, b = c → knowD (some d) c tm = tm.set d (.bool b) := fun c e => by subst e; rfl
      by_cases e : b = want
      ·left
       rw [hk want e]
       exact yes _ s2 (by rw [hw, e]; cases want <;> rfl)
      ·right
       rw [hk (nb want) (by cases b <;> cases want <;> first | rfl | exact (e rfl).elim)]
       exact no _ s2 (by rw [hw]; cases b <;> cases want <;> first | rfl | exact (e rfl).elim)
   | some b =>
    have := guard_good hg s.T hgd
    cases b with
    | true => exact yes tm s this
    | false => exact no tm s this
theorem fseq_good {ops : Array Oper} : ∀ (l : List Oper) (i : Nat), ops.toList.drop i = l → FSeq P ops (List.range' i l.length) nt (fSeq P nt ops.toList l) := by
 intro l
 induction l with
 | nil => exact fun i _ r G S ro tm df h nx σ w a s Q hQ => hQ σ a w s (Fwd.refl _ _ _) (Nat.le_refl _)
 | cons o l ih =>
  intro i hi
  have ho : ops[i]? = some o := by
   have : (ops.toList.drop i)[0]? = some o := by rw [hi]; rfl
   rw [List.getElem?_drop] at this
   simpa using this
  have hd : ops.toList.drop (i + 1) = l := by
   rw [← List.drop_drop, hi]; rfl
  exact fone_good ho (ih (i + 1) hd)
theorem thenF_good {W V : (Exit → Act → World → Prop) → Prop} {k : Tr Value → List DfE → Hp → Nat → FC} {Nx : (Exit → Act → World → Prop) → Act → World → Prop} {res : FC}
  (hx : FutF σ h nx w S nt ro W res) (hy : ∀ tm df h1 nx1 σ1 w1 a1, St σ1 h1 nx1 w1 S nt tm df a1 ro → FutF σ1 h1 nx1 w1 S nt ro (fun Q => Nx Q a1 w1) (k tm df h1 nx1))
  (hV : ∀ Q, W (Exit.then (Nx Q) Q) → V Q) : FutF σ h nx w S nt ro V (thenF k res) := by
 intro Q hO
 refine hV Q (hx _ ?_)
 clear hx
 induction res with
 | no _ _ => exact hO.elim
 | fork a b iha ihb => exact ⟨iha hO.1, ihb hO.2⟩
 | ok e tm df h1 nx1 =>
  cases e with
  | normal => exact fun σ1 a1 w1 s1 f1 hn => hy tm df h1 nx1 σ1 w1 a1 s1 Q (Outs.shift f1 hn hO)
  | exit id => exact hO
  | goto l => exact hO
  | ret => exact hO
theorem floop_good {c : Code} {k : KFC} (hk : FGood P nt c k) : FGood P nt (.loop c) ⟨fun r S tm df h nx => loopF k r S r.fuel tm df h nx⟩ := by
 intro r G S ro tm df h nx σ w a s
 have key : ∀ m tm df h nx σ w a, St σ h nx w S nt tm df a ro → FutF σ h nx w S nt ro (fun Q => Code.roundsIn (FwR ro) 0 P c Q m a w) (loopF k r S m tm df h nx) := by
  intro m
  induction m with
  | zero => exact fun _ _ _ _ _ _ _ _ Q hO => hO.elim
  | succ m ih =>
   intro tm df h nx σ w a s
   exact thenF_good (hk r G S ro tm df h nx σ w a s) (fun tm df h1 nx1 σ1 w1 a1 s1 => ih tm df h1 nx1 σ1 w1 a1 s1) (fun Q hq => hq)
 exact (key r.fuel tm df h nx σ w a s).mono fun Q hq => wpIn_loop_rounds _ hq
theorem fblock_good {c : Code} {id : Nat} {k : KFC} (hk : FGood P nt c k) : FGood P nt (.block id c) ⟨fun r S tm df h nx => blockF id (k.f r S tm df h nx)⟩ := by
 intro r G S ro tm df h nx σ w a s Q hO
 refine wpIn_block (hk r G S ro tm df h nx σ w a s _ ?_)
 change Outs σ h nx w S nt ro Q (blockF id (k.f r S tm df h nx)) at hO
 generalize k.f r S tm df h nx = res at hO
 induction res with
 | no _ _ => exact hO.elim
 | fork a b iha ihb => exact ⟨iha hO.1, ihb hO.2⟩
 | ok e tm2 df2 h2 nx2 =>
  intro σ1 a1 w1 s1 f1 hn
  have := hO σ1 a1 w1 s1 f1 hn
  cases e with
  | exit j =>
   show if j = id then _ else _
   by_cases hj : j = id
   ·rw [if_pos hj]
    simp only [exitC, beq_true.2 hj] at this
    exact this
   ·rw [if_neg hj]
    simp only [exitC, beq_false.2 hj] at this
    exact this
  | _ => exact this
theorem fcond_good {v : Operand} {x y : Code} {kx ky : KFC} (hx : FGood P nt x kx) (hy : FGood P nt y ky) : FGood P nt (.cond v x y) ⟨fun r S tm df h nx => condF v (opv v tm) (fun tm => kx.f r S tm df h nx) (fun tm => ky.f r S tm df h nx) tm⟩ := by
 intro r G S ro tm df h nx σ w a s
 have hv := VR.opv s.T v
 show FutF σ h nx w S nt ro _ (condF v (opv v tm) (fun tm => kx.f r S tm df h nx) (fun tm => ky.f r S tm df h nx) tm)
 have gen : ∀ u : Bool, (u = true → Nat.beq (unkN (opv v tm)) 2 = true) → FutF σ h nx w S nt ro (fun Q => (Code.cond v x y).wpIn (FwR ro) 0 P Q a w) (fGuard2 u "cond" (kx.f r S (knowO v true tm) df h nx) (ky.f r S (knowO v false tm) df h nx)) := by
  intro u hu
  refine fGuard2_good fun h1 => ?_
  obtain ⟨b, hb⟩ := unk_bool hv (hu h1)
  have s2 : St σ h nx w S nt (knowO v b tm) df a ro := by
   cases v with
   | tmp t =>
    have hb : a.tmps.getD t undef = .bool b := hb
    exact s.know (by rw [hb]; exact VR.b b)
   | _ => exact s
  cases b with
  | true => exact .inl ((hx r G S ro _ df h nx σ w a s2).mono fun Q hq => wpIn_cond_true hb hq)
  | false => exact .inr ((hy r G S ro _ df h nx σ w a s2).mono fun Q hq => wpIn_cond_false hb hq)
 cases hov : opv v tm with
 | bool b =>
  rw [hov] at hv
  cases b with
  | true => exact (hx r G S ro tm df h nx σ w a s).mono fun Q hq => wpIn_cond_true hv.bool hq
  | false => exact (hy r G S ro tm df h nx σ w a s).mono fun Q hq => wpIn_cond_false hv.bool hq
 | _ => exact gen _ (fun hh => by rw [hov]; exact hh)
theorem fcode_good (hd : DrawGood P) : ∀ c, FGood P nt c (fCode P nt c) := by
 intro c
 have emb : ∀ c, (fCode P nt c = ⟨fun r S tm df h nx => embC ((cBody P nt c).f r S tm df h nx)⟩) → FGood P nt c (fCode P nt c) := by
  intro c he
  rw [he]
  exact fun r G S ro tm df h nx σ w a s => FutF.of (body_good hd c r G S ro tm df h nx σ w a s)
 induction c with
 | seq x y hx hy => exact fun r G S ro tm df h nx σ w a s => thenF_good (hx r G S ro tm df h nx σ w a s) (fun tm df h1 nx1 σ1 w1 a1 s1 => hy r G S ro tm df h1 nx1 σ1 w1 a1 s1) (fun Q hq => wpIn_seq hq)
 | cond v x y hx hy => exact fcond_good hx hy
 | block id b hb => exact fblock_good hb
 | loop b hb => exact floop_good hb
 | region id ops draw =>
  cases draw with
  | false =>
   intro r G S ro tm df h nx σ w a s
   refine (fseq_good (P := P) (nt := nt) (ops := ops) ops.toList 0 (by simp) r G S ro tm df h nx σ w a s).mono fun Q hq => wpIn_region ?_
   rw [List.range_eq_range']
   simpa using hq
  | true => exact emb _ rfl
 | _ => exact emb _ rfl
end
end Go.Proofs.YtpnaenbpffhjfaaGreatDoor.Ev

namespace Go.Proofs.YtpnaenbpffhjfaaGreatDoor.Ev
def ExtGood (E : Env) : Prop := ∀ (g : FuncId) (fn : Func) (e : Ext), E.P.funcs[g]? = some fn → fn.body = none → E.ext g = some e → ∀ (args args' : List Value) (h : Hp) (nx : Nat) (σ : Sg) (w : World) (v : Value) (h' : Hp) (nx' : Nat), Rel σ h nx w → 1 ≤ nx → VRL σ args args' →
 evExtH e args h nx = .ok v h' nx' → ∃ v' w1 σ', (callFunc g ⟨args'⟩).run E.P w = .ok (.value v') w1 ∧ Rel σ' h' nx' w1 ∧ Fwd σ h w σ' h' w1 ∧ VR σ' v v' ∧ nx ≤ nx'
def OvGood (E : Env) : Prop := ∀ g f, E.ov g = some f → ∀ (args : List Value) (v : Value), f args = some v → flatL args = true ∧ flat v = true ∧
 ∀ w : World, (callFunc g ⟨args⟩).run E.P w = .ok (.enter g ⟨args⟩) w ∧ CallsIn Fence.wide 0 E.P g ⟨args⟩ w fun e w1 => e = .returned v ∧ w1.os = w.os ∧ w1.tape = w.tape ∧ w1.output = w.output ∧ w.heap.size ≤ w1.heap.size ∧ ∀ r, r < w.heap.size → w1.heap[r]? = w.heap[r]?
def lk : List (Nat × LO) → Nat → Option LO
 | [], _ => none
 | p :: l, b => if p.1 = b then some p.2 else lk l b
structure Wf (r : HRow) : Prop where
 live : ∀ b vs f, lk r.h b = some (.cells vs f) → f ≠ 0 → ∃ la al, lk r.h f = some (.fam la al) ∧ al ≤ b
 root : ∀ b vs f, lk r.h' b = some (.cells vs f) → f ≠ 0 → ∃ la al, lk r.h' f = some (.fam la al)
 up : ∀ f la al, lk r.h' f = some (.fam la al) → f < r.nx → ∃ la0 al0, lk r.h f = some (.fam la0 al0) ∧ al0 ≤ al ∧ la0 ≤ la
 new : ∀ f la al, lk r.h' f = some (.fam la al) → r.nx ≤ f → r.nx ≤ al ∧ r.nx ≤ la
def RowHGood0 (P : Program) (g : FuncId) (r : HRow) : Prop := ∀ (σ : Sg) (w : World) (args' : List Value), Rel σ (hpOf r.h) r.nx w → VRL σ r.a args' → CallRes P g args' σ (hpOf r.h) r.nx w (.ok r.v (hpOf r.h') r.nx')
def RowHGood (P : Program) (g : FuncId) (r : HRow) : Prop := Wf r ∧ RowHGood0 P g r
def HvGood (E : Env) : Prop := ∀ g, ∀ r ∈ E.hv g, RowHGood E.P g r
def SrRow (P : Program) (g : FuncId) (q : FuncId × Bool) : Prop := ∀ (args args' : List Value) (h : Hp) (nx : Nat) (σ : Sg) (w : World) (k : H), Rel σ h nx w → 1 ≤ nx → VRL σ args args' →
 CallRes P g args' σ h nx w k → CallRes P g args' σ h nx w (srBox (srBx q.1 args) q.2 h nx k)
def SrGood (E : Env) : Prop := ∀ (g : FuncId) (q : FuncId × Bool), E.sr g = some q → SrRow E.P g q
def NameGood (P : Program) : Prop := ∀ (g : FuncId) (fn : Func), P.funcs[g]? = some fn → fn.body.isSome = true → (fn.name == "runtime.NumGoroutine") = false
section
variable {E : Env}
def FnOk (P : Program) (g : FuncId) (args : List Value) (u : Value) : Prop :=
 ∀ (R : Nat → Option Obj) (w : World) (args' : List Value), (∀ r o, R r = some o → w.heap[r]? = some o) → FRL R args args' →
  (callFunc g ⟨args'⟩).run P w = .ok (.enter g ⟨args'⟩) w ∧
  CallsIn Fence.wide 0 P g ⟨args'⟩ w fun e w1 => ∃ (v' : Value) (R' : Nat → Option Obj), e = .returned v' ∧ FR R' u v' ∧ RLe R R' ∧
   (∀ r o, R' r = some o → w1.heap[r]? = some o ∧ (R r = some o ∨ w.heap.size ≤ r)) ∧ w1.os = w.os ∧ w1.tape = w.tape ∧ w1.output = w.output ∧ w.heap.size ≤ w1.heap.size ∧ ∀ r, r < w.heap.size → w1.heap[r]? = w.heap[r]?
def FzGood (E : Env) : Prop := ∀ g c, E.fz g = some c → ∀ us u, c.F us = some u → FnOk E.P g us u
theorem chop_length (a : Bool) (sz : Nat) : ∀ (n : Nat) (l : List Value), (chop a sz n l).length = n
 | 0, _ => rfl
 | n + 1, l => by simp [chop, chop_length a sz n]
theorem chop_flat {a : Bool} {sz : Nat} (hsz : a = false → sz = 1) : ∀ (n : Nat) (l : List Value), l.length = n * sz → (a = false → ∀ v ∈ l, cellsL v = [v]) → flatC (chop a sz n l) = l ∧ ∀ x ∈ chop a sz n l, (cellsL x).length = sz
 | 0, l, h, _ => by
  have : l = [] := List.eq_nil_of_length_eq_zero (by simpa using h)
  subst this
  exact ⟨rfl, fun x hx => by cases hx⟩
 | n + 1, l, h, hv => by
  rw [Nat.succ_mul] at h
  obtain ⟨h1, h2⟩ := chop_flat hsz n (dropL sz l) (by rw [dropL_eq, List.length_drop]; omega) (fun e v hm => hv e v (by rw [dropL_eq] at hm; exact List.mem_of_mem_drop hm))
  cases a with
  | true =>
   have hc : cellsL (.agg ⟨takeL sz l⟩) = l.take sz := by rw [takeL_eq]; rfl
   refine ⟨?_, fun x hx => ?_⟩
   ·show cellsL (.agg ⟨takeL sz l⟩) ++ flatC (chop true sz n (dropL sz l)) = l
    rw [h1, hc, dropL_eq, List.take_append_drop]
   ·rcases List.mem_cons.1 hx with e | hx
    ·rw [e, hc, List.length_take]; omega
    ·exact h2 x hx
  | false =>
   have hs := hsz rfl
   subst hs
   match l, h with
   | v :: l, h =>
    have hc := hv rfl v (List.mem_cons_self ..)
    refine ⟨?_, fun x hx => ?_⟩
    ·show cellsL v ++ flatC (chop false 1 n (dropL 1 (v :: l))) = v :: l
     rw [h1, hc]; rfl
    ·rcases List.mem_cons.1 hx with e | hx
     ·have e : x = v := e
      rw [e, hc]; rfl
     ·exact h2 x hx
theorem cell_self {v : Value} (h : cellV v = true) : cellsL v = [v] := by cases v <;> first | rfl | (simp [cellV] at h)
theorem cellsV_mem : ∀ {l : List Value} {v : Value}, cellsV l = true → v ∈ l → cellV v = true
 | [], _, _, hm => by cases hm
 | x :: l, v, h, hm => by
  rw [cellsV_cons] at h
  rcases List.mem_cons.1 hm with rfl | hm
  ·exact h.1
  ·exact cellsV_mem h.2 hm
section view
variable {σ : Sg} {h : Hp} {nx : Nat} {w : World}
theorem viewS_good (Rl : Rel σ h nx w) {R' : Nat → Option Obj} (h1 : RLe σ.R R') {a : Bool} {sz : Nat} {v v' u : Value} (hv : VR σ v v') (e : viewS h a sz v = some u) (hu : noId u = true)
  (h2 : noId v = true ∨ ∀ r o, Im σ h r → w.heap[r]? = some o → R' r = some o) : FR R' u v' := by
 unfold viewS at e
 split at e
 ·cases e
  obtain ⟨_, _, h3⟩ := hv.nilslice
  subst h3
  exact .sl0 _ _ none 0 fun _ => rfl
 ·rename_i ad n c
  have h2 : ∀ r o, Im σ h r → w.heap[r]? = some o → R' r = some o := by
   rcases h2 with h2 | h2
   ·simp [noId] at h2
   ·exact h2
  cases hb : Nat.ble n c with
  | false => rw [hb] at e; cases e
  | true =>
   rw [hb] at e
   have hnc := ble_true.1 hb
   change chopO a sz n (firstS ad h (n * sz)) = some u at e
   unfold chopO at e
   split at e
   ·rename_i cs hcs
    split at e
    ·rename_i hok
     cases e
     simp only [Bool.and_eq_true] at hok
     obtain ⟨hid, ha⟩ := hok
     have zero : n = 0 → FR R' (fz (chop a sz n cs)) v' := by
      intro h0
      subst h0
      have hX : ∃ a' cap, v' = .slice (some a') 0 cap := by
       rcases hv.sliceI with ⟨_, i, _, h3⟩ | ⟨_, i, cap, _, _, _, _, _, _, h3⟩ | ⟨_, _, ⟨a', cap, h3⟩, _⟩
       ·exact ⟨_, _, h3⟩
       ·exact ⟨_, _, h3⟩
       ·exact ⟨_, _, h3⟩
      obtain ⟨a', cap, rfl⟩ := hX
      exact .sl0 _ _ _ _ fun hh => by cases hh
     by_cases hn0 : n = 0
     ·exact zero hn0
     ·have hsz : 1 ≤ sz := by
       cases a with
       | true => exact ble_true.1 ha
       | false => have ha : (Nat.beq sz 1 && cellsV cs) = true := ha; rw [Bool.and_eq_true] at ha; have := beq_true.1 ha.1; omega
      have hm0 : n * sz ≠ 0 := Nat.mul_ne_zero hn0 (by omega)
      unfold firstS at hcs
      rw [beq_false.2 hm0] at hcs
      have hcs : loadC h ad.block ad.off (n * sz) = some cs := hcs
      obtain ⟨t, size, root, hg, hsize, hl, hmany⟩ := loadC_some hcs
      obtain ⟨hlen, hk⟩ := Tr.getMany_some t (n * sz) ad.off cs hmany
      have key : ∀ i cap, σ ad.block = some i → n ≤ cap → v' = .slice (some ⟨i.r, i.shift + ad.off, none⟩) n cap → FR R' (fz (chop a sz n cs)) v' := by
       intro i cap hi hcap hX
       obtain ⟨arr, el, fr, hc, g1, g2, g3, g4⟩ := Rl.cells hg hl hi
       let cs' : List Value := (List.range (n * sz)).map fun k => arr.getD (i.shift + ad.off + k) undef
       have hrd : RdR R' i.r (i.shift + ad.off) cs' := by
        refine ⟨arr, el, fr, h2 i.r _ ⟨ad.block, _, i, hg, hi, rfl⟩ hc, by simp [cs']; omega, fun k x hx => ?_⟩
        have hkn : k < n * sz := by
         rcases Nat.lt_or_ge k (n * sz) with h' | h'
         ·exact h'
         ·rw [List.getElem?_eq_none (by simpa [cs'] using h')] at hx; cases hx
        have : cs'[k]? = some (arr.getD (i.shift + ad.off + k) undef) := by simp [cs', hkn]
        rw [this] at hx
        cases hx
        simp [Array.getD_eq_getD_getElem?, Array.getElem?_eq_getElem (by omega : i.shift + ad.off + k < arr.size)]
       have hvr : VRL σ cs cs' := by
        refine VRL.of_get (by simp [cs', hlen]) fun k x hx => ?_
        have hkn : k < n * sz := by
         rcases Nat.lt_or_ge k (n * sz) with h' | h'
         ·exact h'
         ·rw [List.getElem?_eq_none (by omega)] at hx; cases hx
        obtain ⟨x', b1, b2⟩ := g4 (ad.off + k) x (by omega) (by rw [hk k hkn, hx])
        refine ⟨x', ?_, b2⟩
        rw [← Nat.add_assoc] at b1
        simp [cs', hkn, Array.getD_eq_getD_getElem?, b1]
       obtain ⟨f1, f2⟩ := chop_flat (a := a) (sz := sz) (fun e => by subst e; have ha : (Nat.beq sz 1 && cellsV cs) = true := ha; rw [Bool.and_eq_true] at ha; exact beq_true.1 ha.1) n cs hlen (fun e => by
        subst e
        have ha : (Nat.beq sz 1 && cellsV cs) = true := ha
        rw [Bool.and_eq_true] at ha
        exact fun v hv => cell_self (cellsV_mem ha.2 hv))
       have := FR.sl (R := R') "" #[] (chop a sz n cs) cs' i.r (i.shift + ad.off) sz cap hrd (by rw [f1]; exact (hvr.fr hid).mono h1) f2 (by rw [chop_length]; exact hcap)
       rw [chop_length] at this
       rw [hX]; exact this
      rcases hv.sliceI with ⟨_, i, hi, h3⟩ | ⟨_, i, cap, _, _, hi, _, hcc, _, h3⟩ | ⟨_, h0, _, _⟩
      ·exact key i _ hi hnc h3
      ·exact key i _ hi (by omega) h3
      ·exact (hn0 h0).elim
    ·cases e
   ·cases e
 ·cases e
  exact (hv.fr hu).mono h1
theorem viewP_good (Rl : Rel σ h nx w) {R' : Nat → Option Obj} (h1 : RLe σ.R R') {n : Nat} {v v' u : Value} (hv : VR σ v v') (e : viewP h n v = some u) (hu : noId u = true)
  (h2 : noId v = true ∨ ∀ r o, Im σ h r → w.heap[r]? = some o → R' r = some o) : FR R' u v' := by
 unfold viewP at e
 split at e
 ·rename_i ad
  have h2 : ∀ r o, Im σ h r → w.heap[r]? = some o → R' r = some o := by
   rcases h2 with h2 | h2
   ·simp [noId] at h2
   ·exact h2
  unfold viewC at e
  split at e
  ·rename_i cs hcs
   split at e
   ·rename_i hid
    cases e
    obtain ⟨t, size, root, hg, hsize, hl, hmany⟩ := loadC_some hcs
    obtain ⟨hlen, hk⟩ := Tr.getMany_some t n ad.off cs hmany
    obtain ⟨_, i, hi, hX⟩ := hv.ptrI
    obtain ⟨arr, el, fr, hc, g1, g2, g3, g4⟩ := Rl.cells hg hl hi
    let cs' : List Value := (List.range n).map fun k => arr.getD (i.shift + ad.off + k) undef
    have hrd : RdR R' i.r (i.shift + ad.off) cs' := by
     refine ⟨arr, el, fr, h2 i.r _ ⟨ad.block, _, i, hg, hi, rfl⟩ hc, by simp [cs']; omega, fun k x hx => ?_⟩
     have hkn : k < n := by
      rcases Nat.lt_or_ge k n with h' | h'
      ·exact h'
      ·rw [List.getElem?_eq_none (by simpa [cs'] using h')] at hx; cases hx
     have : cs'[k]? = some (arr.getD (i.shift + ad.off + k) undef) := by simp [cs', hkn]
     rw [this] at hx
     cases hx
     simp [Array.getD_eq_getD_getElem?, Array.getElem?_eq_getElem (by omega : i.shift + ad.off + k < arr.size)]
    have hvr : VRL σ cs cs' := by
     refine VRL.of_get (by simp [cs', hlen]) fun k x hx => ?_
     have hkn : k < n := by
      rcases Nat.lt_or_ge k n with h' | h'
      ·exact h'
      ·rw [List.getElem?_eq_none (by omega)] at hx; cases hx
     obtain ⟨x', b1, b2⟩ := g4 (ad.off + k) x (by omega) (by rw [hk k hkn, hx])
     refine ⟨x', ?_, b2⟩
     rw [← Nat.add_assoc] at b1
     simp [cs', hkn, Array.getD_eq_getD_getElem?, b1]
    rw [hX]
    exact FR.pt (R := R') "" ⟨[]⟩ cs cs' i.r (i.shift + ad.off) hrd ((hvr.fr hid).mono h1)
   ·cases e
  ·cases e
 ·cases e
  exact (hv.fr hu).mono h1
theorem viewPL_good (Rl : Rel σ h nx w) {R' : Nat → Option Obj} (h1 : RLe σ.R R') : ∀ {ks : List Nat} {vs vs' us : List Value}, VRL σ vs vs' → viewPL h ks vs = some us → noIdL us = true →
  (noIdL vs = true ∨ ∀ r o, Im σ h r → w.heap[r]? = some o → R' r = some o) → FRL R' us vs'
 | [], vs, vs', us, hv, e, hu, _ => by
  have e : some vs = some us := e
  cases e
  exact (hv.fr hu).mono h1
 | k :: ks, vs, vs', us, hv, e, hu, h2 => by
  cases hv with
  | nil =>
   have e : some [] = some us := e
   cases e
   exact .nil
  | cons v v' l l' hh hl =>
   change (match viewP h k v with | some u => (match viewPL h ks l with | some us => some (u :: us) | none => none) | none => none) = some us at e
   cases e1 : viewP h k v with
   | none => rw [e1] at e; cases e
   | some u =>
    cases e2 : viewPL h ks l with
    | none => simp only [e1, e2] at e; cases e
    | some us' =>
     simp only [e1, e2] at e
     cases e
     simp only [noIdL, Bool.and_eq_true] at hu
     have h2' : (noId v = true ∧ noIdL l = true) ∨ ∀ r o, Im σ h r → w.heap[r]? = some o → R' r = some o := h2.imp (fun x => by simpa [noIdL] using x) id
     exact .cons _ _ _ _ (viewP_good Rl h1 hh e1 hu.1 (h2'.imp (·.1) id)) (viewPL_good Rl h1 hl e2 hu.2 (h2'.imp (·.2) id))
theorem viewF_good (Rl : Rel σ h nx w) {R' : Nat → Option Obj} (h1 : RLe σ.R R') {l : List Nat} {v v' u : Value} (hv : VR σ v v') (e : viewF h l v = some u) (hu : noId u = true)
  (h2 : noId v = true ∨ ∀ r o, Im σ h r → w.heap[r]? = some o → R' r = some o) : FR R' u v' := by
 unfold viewF at e
 split at e
 ·rename_i f a b
  obtain ⟨a', b', rfl, ha, hb⟩ := hv.funcI
  cases e2 : viewPL h l b with
  | none => rw [e2] at e; cases e
  | some us =>
   rw [e2] at e
   cases e
   obtain ⟨a⟩ := a
   have hu' : noIdL a = true ∧ noIdL us = true := by simpa [noId] using hu
   have h2' : (noIdL a = true ∧ noIdL b = true) ∨ ∀ r o, Im σ h r → w.heap[r]? = some o → R' r = some o := h2.imp (fun x => by simpa [noId] using x) id
   exact .func _ _ _ _ _ ((ha.fr hu'.1).mono h1) (viewPL_good Rl h1 hb e2 hu'.2 (h2'.imp (·.2) id))
 ·cases e
  exact (hv.fr hu).mono h1
theorem view1_good (Rl : Rel σ h nx w) {R' : Nat → Option Obj} (h1 : RLe σ.R R') {k : Vw1} {v v' u : Value} (hv : VR σ v v') (e : view1 h k v = some u) (hu : noId u = true)
  (h2 : noId v = true ∨ ∀ r o, Im σ h r → w.heap[r]? = some o → R' r = some o) : FR R' u v' := by
 cases k with
 | is => cases e; exact (hv.fr hu).mono h1
 | sl a sz => exact viewS_good Rl h1 hv e hu h2
 | pt n => exact viewP_good Rl h1 hv e hu h2
 | fn l => exact viewF_good Rl h1 hv e hu h2
theorem view1L_good (Rl : Rel σ h nx w) {R' : Nat → Option Obj} (h1 : RLe σ.R R') : ∀ {ks : List Vw1} {vs vs' us : List Value}, VRL σ vs vs' → view1L h ks vs = some us → noIdL us = true →
  (noIdL vs = true ∨ ∀ r o, Im σ h r → w.heap[r]? = some o → R' r = some o) → FRL R' us vs'
 | [], vs, vs', us, hv, e, _, _ => by
  cases hv with
  | nil => cases e; exact .nil
  | cons => cases e
 | k :: ks, vs, vs', us, hv, e, hu, h2 => by
  cases hv with
  | nil => cases e
  | cons v v' l l' hh hl =>
   change (match view1 h k v with | some u => (match view1L h ks l with | some us => some (u :: us) | none => none) | none => none) = some us at e
   cases e1 : view1 h k v with
   | none => rw [e1] at e; cases e
   | some u =>
    cases e2 : view1L h ks l with
    | none => rw [e1, e2] at e; cases e
    | some us' =>
     rw [e1, e2] at e
     cases e
     simp only [noIdL, Bool.and_eq_true] at hu h2
     exact .cons _ _ _ _ (view1_good Rl h1 hh e1 hu.1 (h2.imp (·.1) id)) (view1L_good Rl h1 hl e2 hu.2 (h2.imp (·.2) id))
theorem viewV_good (Rl : Rel σ h nx w) {R' : Nat → Option Obj} (h1 : RLe σ.R R') {k : Vw} {v v' u : Value} (hv : VR σ v v') (e : viewV h k v = some u) (hu : noId u = true)
  (h2 : noId v = true ∨ ∀ r o, Im σ h r → w.heap[r]? = some o → R' r = some o) : FR R' u v' := by
 cases k with
 | one k => exact view1_good Rl h1 hv e hu h2
 | st l =>
  cases v with
  | agg vs =>
   obtain ⟨vs', hX, hl⟩ := hv.aggI
   change aggS (view1L h l vs.toList) = some u at e
   cases e2 : view1L h l vs.toList with
   | none => rw [e2] at e; cases e
   | some us =>
    rw [e2] at e
    cases e
    rw [hX]
    exact .agg _ _ (view1L_good Rl h1 hl e2 (by simpa [noId] using hu) (h2.imp (fun x => by cases vs; simpa [noId] using x) id))
  | tuple vs =>
   obtain ⟨vs', hX, hl⟩ := hv.tupleI
   change tupS (view1L h l vs.toList) = some u at e
   cases e2 : view1L h l vs.toList with
   | none => rw [e2] at e; cases e
   | some us =>
    rw [e2] at e
    cases e
    rw [hX]
    exact .tuple _ _ (view1L_good Rl h1 hl e2 (by simpa [noId] using hu) (h2.imp (fun x => by cases vs; simpa [noId] using x) id))
  | _ => cases e
theorem viewL_good (Rl : Rel σ h nx w) {R' : Nat → Option Obj} (h1 : RLe σ.R R') : ∀ {ks : List Vw} {vs vs' us : List Value}, VRL σ vs vs' → viewL h ks vs = some us → noIdL us = true →
  (noIdL vs = true ∨ ∀ r o, Im σ h r → w.heap[r]? = some o → R' r = some o) → FRL R' us vs'
 | [], vs, vs', us, hv, e, _, _ => by
  cases hv with
  | nil => cases e; exact .nil
  | cons => cases e
 | k :: ks, vs, vs', us, hv, e, hu, h2 => by
  cases hv with
  | nil => cases e
  | cons v v' l l' hh hl =>
   change (match viewV h k v with | some u => (match viewL h ks l with | some us => some (u :: us) | none => none) | none => none) = some us at e
   cases e1 : viewV h k v with
   | none => rw [e1] at e; cases e
   | some u =>
    cases e2 : viewL h ks l with
    | none => rw [e1, e2] at e; cases e
    | some us' =>
     rw [e1, e2] at e
     cases e
     simp only [noIdL, Bool.and_eq_true] at hu h2
     exact .cons _ _ _ _ (viewV_good Rl h1 hh e1 hu.1 (h2.imp (·.1) id)) (viewL_good Rl h1 hl e2 hu.2 (h2.imp (·.2) id))
theorem Rel.refz (Rl : Rel σ h nx w) {R' : Nat → Option Obj} (hle : RLe σ.R R') (hz : FzR ⟨σ.f, σ.res, R'⟩ h w) : Rel ⟨σ.f, σ.res, R'⟩ h nx w :=
 ⟨⟨fun b o hb => (Rl.obj b o hb).imp id fun ⟨i, a, c, d⟩ => ⟨i, a, c, fun hl => OR.mono (σ := σ) (τ := ⟨σ.f, σ.res, R'⟩) ⟨fun _ _ h => h, hle⟩ (d hl)⟩, Rl.new, Rl.fams, Rl.sep, Rl.lat, Rl.mx, Rl.rsv, Rl.gl⟩, hz⟩
mutual
theorem FR.flat_eq {R : Nat → Option Obj} : ∀ {v v' : Value}, FR R v v' → flat v = true → v' = v
 | _, _, .base v hb, _ => rfl
 | _, _, .sl .., h => by simp [flat] at h
 | _, _, .sl0 .., h => by simp [flat] at h
 | _, _, .pt .., h => by simp [flat] at h
 | _, _, .func f a b a' b' ha hb, h => by
  simp only [flat, Bool.and_eq_true] at h
  rw [FRL.flat_eq ha h.1, FRL.flat_eq hb h.2]
 | _, _, .iface t v v' hv, h => by rw [FR.flat_eq hv (by simpa [flat] using h)]
 | _, _, .agg a a' hl, h => by rw [FRL.flat_eq hl (by simpa [flat] using h)]
 | _, _, .tuple a a' hl, h => by rw [FRL.flat_eq hl (by simpa [flat] using h)]
theorem FRL.flat_eq {R : Nat → Option Obj} : ∀ {l l' : List Value}, FRL R l l' → flatL l = true → l' = l
 | _, _, .nil, _ => rfl
 | _, _, .cons v v' l l' hv hl, h => by
  simp only [flatL, Bool.and_eq_true] at h
  rw [FR.flat_eq hv h.1, FRL.flat_eq hl h.2]
end
end view
theorem run_enter (hN : NameGood E.P) {g : FuncId} {fn : Func} {c : Code} (hf : E.P.funcs[g]? = some fn) (hb : fn.body = some c) (args : Array Value) (w : World) : (callFunc g args).run E.P w = .ok (.enter g args) w := by
 unfold callFunc
 rw [run_b run_program]
 have h1 := hN g fn hf (by rw [hb]; rfl)
 simp only [hf]
 refine (run_ite_f (by rw [h1]; simp)).trans ?_
 refine (run_ite_f (by rw [hb]; simp)).trans ?_
 rfl
theorem enter_TR {σ : Sg} {args args' : List Value} (hv : VRL σ args args') (n : Nat) : TR σ n (Tr.ofL args) ((⟨args'⟩ : Array Value) ++ Array.replicate (n - args'.length) undef) := by
 refine ⟨by simp; omega, fun t v ht => ?_⟩
 rw [Tr.get_ofL] at ht
 obtain ⟨v', h1, h2⟩ := hv.get t v ht
 have hlt : t < args'.length := (List.getElem?_eq_some_iff.1 h1).1
 have : ((⟨args'⟩ : Array Value) ++ Array.replicate (n - args'.length) undef).getD t undef = v' := by
  rw [Array.getD_eq_getD_getElem?, Array.getElem?_append_left (by simpa using hlt)]
  simp [h1]
 rw [this]; exact h2
theorem Rel.grown {σ : Sg} {h : Hp} {nx : Nat} {w w1 : World} (R : Rel σ h nx w) (hsz : w.heap.size ≤ w1.heap.size) (hh : ∀ r, r < w.heap.size → w1.heap[r]? = w.heap[r]?) : Rel σ h nx w1 :=
 ⟨⟨fun b o hb => (R.obj b o hb).imp id fun ⟨i, a, c, d⟩ => ⟨i, a, Nat.lt_of_lt_of_le c hsz, fun hl => (d hl).world (hh _ c)⟩, R.new, R.fams, R.sep, R.lat, R.mx, R.rsv, R.gl⟩, R.fz.world hh⟩
theorem bodyF_good (hd : DrawGood E.P) (hN : NameGood E.P) {r : Rec} (G : RecGood E.P r) {g : FuncId} {fn : Func} {c : Code} (hf : E.P.funcs[g]? = some fn) (hb : fn.body = some c)
  {args args' : List Value} {h : Hp} {nx : Nat} {σ : Sg} {w : World} (R : Rel σ h nx w) (hpos : 1 ≤ nx) (hv : VRL σ args args') :
  CallRes E.P g args' σ h nx w ((cBodyF E.P g fn (cBody E.P fn.ntmps c)).f r args h nx) := by
 let S : Sx := { ro := none, fn := g, nt := fn.ntmps }
 let a0 : Act := { tmps := (⟨args'⟩ : Array Value) ++ Array.replicate (fn.ntmps - args'.length) undef, defers := [] }
 have s : St σ h nx w S fn.ntmps (Tr.ofL args) [] a0 none := ⟨R, hpos, rfl, enter_TR hv fn.ntmps, trivial, trivial⟩
 have hB := body_good hd c r G S none (Tr.ofL args) [] h nx σ w a0 s
 show CallRes E.P g args' σ h nx w (callEnd E.P fn.results.toList fn.name r ((cBody E.P fn.ntmps c).f r S (Tr.ofL args) [] h nx))
 have main : ∀ e tm df h2 nx2 v h' nx', (cBody E.P fn.ntmps c).f r S (Tr.ofL args) [] h nx = .ok e tm df h2 nx2 → (e = .normal ∨ e = .ret) → leaves E.P fn.results.toList tm (evEnd r df h2 nx2) = .ok v h' nx' →
   CallRes E.P g args' σ h nx w (.ok v h' nx') := by
  intro e tm df h2 nx2 v h' nx' hres he hl
  rw [hres] at hB
  refine .inr ⟨run_enter hN hf hb _ _, ?_⟩
  cases hee : evEnd r df h2 nx2 with
  | no _ _ => rw [hee] at hl; cases hl
  | ok u3 h3 nx3 =>
   rw [hee] at hl
   change resV (evResults E.P fn.results.toList tm h3) h3 nx3 = .ok v h' nx' at hl
   have hpost : ∀ σ1 a1 w1, St σ1 h2 nx2 w1 S fn.ntmps tm df a1 none → Fwd σ h w σ1 h2 w1 → nx ≤ nx2 → LeavesInM Fence.wide 0 E.P fn a1.tmps (Post σ h nx w v h' nx') a1.defers .returning w1 := by
    intro σ1 a1 w1 s1 f1 hn
    refine leaves_good G df a1.defers h2 h3 nx2 nx3 σ1 w1 u3 s1.D s1.R s1.pos hee fun σ2 w2 r2 f2 hn2 => ?_
    obtain ⟨e1, e2, v', e3, e4⟩ := results_good r2 (s1.T.mono f2.sub.fn) hl
    subst e1 e2
    exact ⟨v', e3, v', σ2, rfl, r2, f1.trans f2, e4, Nat.le_trans hn hn2⟩
   refine callsIn_of_wp_marks hf hb trivial ?_ rfl
   have hw := hB (bodyPostM Fence.wide 0 E.P fn (Post σ h nx w v h' nx')) (fun σ1 a1 w1 s1 f1 hn => by
    rcases he with he | he <;> subst he <;> exact hpost σ1 a1 w1 s1 f1 hn)
   have hsz : (⟨args'⟩ : Array Value).size = args'.length := rfl
   rw [hsz]
   exact hw
 cases hres : (cBody E.P fn.ntmps c).f r S (Tr.ofL args) [] h nx with
 | no _ _ => trivial
 | ok e tm df h2 nx2 =>
  cases e with
  | normal =>
   show CallRes E.P g args' σ h nx w (leaves E.P fn.results.toList tm (evEnd r df h2 nx2))
   cases hl : leaves E.P fn.results.toList tm (evEnd r df h2 nx2) with
   | no _ _ => trivial
   | ok v h' nx' => exact main _ tm df h2 nx2 v h' nx' hres (.inl rfl) hl
  | ret =>
   show CallRes E.P g args' σ h nx w (leaves E.P fn.results.toList tm (evEnd r df h2 nx2))
   cases hl : leaves E.P fn.results.toList tm (evEnd r df h2 nx2) with
   | no _ _ => trivial
   | ok v h' nx' => exact main _ tm df h2 nx2 v h' nx' hres (.inr rfl) hl
  | exit id => trivial
  | goto l => trivial
theorem Rel.up {σ : Sg} {h : Hp} {nx nx' : Nat} {w : World} (R : Rel σ h nx w) (hn : nx ≤ nx') : Rel σ h nx' w :=
 ⟨⟨R.obj, fun b hb => R.new b (Nat.le_trans hn hb), R.fams, R.sep, R.lat, R.mx, fun b hb => ⟨Nat.lt_of_lt_of_le (R.rsv b hb).1 hn, (R.rsv b hb).2⟩, R.gl⟩, R.fz⟩
theorem callD_good (hd : DrawGood E.P) (hN : NameGood E.P) {r : Rec} (G : RecGood E.P r) (g : FuncId) (args args' : List Value) (h : Hp) (nx : Nat) (σ : Sg) (w : World) (R : Rel σ h nx w) (hpos : 1 ≤ nx) (hv : VRL σ args args') :
  CallDRes E.P g args' σ h nx w ((cFnD E.P g (fnAt E.P g)).f r args h nx) := by
 rw [fnAt_eq]
 cases hf : E.P.funcs[g]? with
 | none => trivial
 | some fn =>
  show CallDRes E.P g args' σ h nx w ((cFnD2 E.P g fn fn.body).f r args h nx)
  cases hb : fn.body with
  | none => trivial
  | some c =>
   let S : Sx := { ro := none, fn := g, nt := fn.ntmps }
   let a0 : Act := { tmps := (⟨args'⟩ : Array Value) ++ Array.replicate (fn.ntmps - args'.length) undef, defers := [] }
   have s : St σ h nx w S fn.ntmps (Tr.ofL args) [] a0 none := ⟨R, hpos, rfl, enter_TR hv fn.ntmps, trivial, trivial⟩
   have hB := body_good hd c r G S none (Tr.ofL args) [] h nx σ w a0 s
   show CallDRes E.P g args' σ h nx w (callEndD E.P fn.results.toList fn.name ((cBody E.P fn.ntmps c).f r S (Tr.ofL args) [] h nx))
   have main : ∀ e tm h2 nx2 v h' nx', (cBody E.P fn.ntmps c).f r S (Tr.ofL args) [] h nx = .ok e tm [] h2 nx2 → (e = .normal ∨ e = .ret) → resV (evResults E.P fn.results.toList tm h2) h2 nx2 = .ok v h' nx' →
     CallDRes E.P g args' σ h nx w (.ok v h' nx') := by
    intro e tm h2 nx2 v h' nx' hres he hl
    rw [hres] at hB
    refine ⟨run_enter hN hf hb _ _, ?_⟩
    have hpost : ∀ σ1 a1 w1, St σ1 h2 nx2 w1 S fn.ntmps tm [] a1 none → Fwd σ h w σ1 h2 w1 → nx ≤ nx2 → a1.defers = [] ∧ ∃ v', (results fn a1.tmps).run E.P w1 = .ok v' w1 ∧ Post σ h nx w v h' nx' (.returned v') w1 := by
     intro σ1 a1 w1 s1 f1 hn
     have hnil : a1.defers = [] := by
      have := s1.D
      cases hdf : a1.defers with
      | nil => rfl
      | cons _ _ => rw [hdf] at this; exact this.elim
     obtain ⟨e1, e2, v', e3, e4⟩ := results_good s1.R s1.T hl
     subst e1 e2
     exact ⟨hnil, v', e3, v', σ1, rfl, s1.R, f1, e4, hn⟩
    have hw := hB (bodyPost E.P fn (Post σ h nx w v h' nx')) (fun σ1 a1 w1 s1 f1 hn => by
     rcases he with he | he <;> subst he <;> exact hpost σ1 a1 w1 s1 f1 hn)
    exact callsDIn_of_wp (F := Fence.wide) (n := 0) (u := .returning) hf hb trivial (by
     have hsz : (⟨args'⟩ : Array Value).size = args'.length := rfl
     rw [hsz]
     exact hw) rfl
   cases hres : (cBody E.P fn.ntmps c).f r S (Tr.ofL args) [] h nx with
   | no _ _ => trivial
   | ok e tm df h2 nx2 =>
    cases df with
    | cons _ _ => cases e <;> trivial
    | nil =>
     cases e with
     | normal =>
      show CallDRes E.P g args' σ h nx w (resV (evResults E.P fn.results.toList tm h2) h2 nx2)
      cases hl : resV (evResults E.P fn.results.toList tm h2) h2 nx2 with
      | no _ _ => trivial
      | ok v h' nx' => exact main _ tm h2 nx2 v h' nx' hres (.inl rfl) hl
     | ret =>
      show CallDRes E.P g args' σ h nx w (resV (evResults E.P fn.results.toList tm h2) h2 nx2)
      cases hl : resV (evResults E.P fn.results.toList tm h2) h2 nx2 with
      | no _ _ => trivial
      | ok v h' nx' => exact main _ tm h2 nx2 v h' nx' hres (.inr rfl) hl
     | exit id => trivial
     | goto l => trivial
theorem sameE_eq {a b : MapEntry} (h : sameE a b = true) : a = b := by
 unfold sameE at h
 simp only [Bool.and_eq_true] at h
 obtain ⟨k, v, n⟩ := a
 obtain ⟨k2, v2, n2⟩ := b
 simp only at h
 rw [sameV_eq _ _ h.1, sameV_eq _ _ h.2.1, beq_true.1 h.2.2]
theorem sameEL_eq : ∀ {l m : List MapEntry}, sameEL l m = true → l = m
 | [], [], _ => rfl
 | [], _ :: _, h => by cases h
 | _ :: _, [], h => by cases h
 | a :: l, b :: m, h => by
  change (match sameE a b with | true => sameEL l m | false => false) = true at h
  cases hb : sameE a b with
  | false => rw [hb] at h; cases h
  | true => rw [hb] at h; rw [sameE_eq hb, sameEL_eq h]
def Less (o' o : AO) : Prop := match o' with
 | .cells t' size root => ∃ t, o = .cells t size root ∧ ∀ k v, t'.get k = some v → t.get k = some v
 | .tab t' size => ∃ t, o = .tab t size ∧ ∀ k v, t'.get k = some v → t.get k = some v
 | o' => o = o'
theorem sameA_less {o : Option AO} {l : LO} (h : sameA o l = true) : ∃ ao, o = some ao ∧ Less (aoOf l) ao := by
 cases l with
 | cells vs root =>
  cases o with
  | none => cases h
  | some ao =>
   cases ao with
   | cells t size root' =>
    change (Nat.beq root' root && (Nat.beq size vs.length && sameO (t.getMany size 0) vs)) = true at h
    simp only [Bool.and_eq_true] at h
    obtain ⟨h1, h2, h3⟩ := h
    have h1 := beq_true.1 h1
    have h2 := beq_true.1 h2
    subst h1 h2
    refine ⟨_, rfl, t, rfl, fun k v hk => ?_⟩
    rw [Tr.get_ofL] at hk
    unfold sameO at h3
    cases hm : t.getMany vs.length 0 with
    | none => rw [hm] at h3; cases h3
    | some l =>
     rw [hm] at h3
     have := sameVL_eq _ _ h3
     subst this
     have hlt := (List.getElem?_eq_some_iff.1 hk).1
     have := (Tr.getMany_some t _ 0 l hm).2 k hlt
     rw [Nat.zero_add] at this
     rw [this]; exact hk
   | _ => cases h
 | fam a b =>
  cases o with
  | none => cases h
  | some ao =>
   cases ao with
   | fam a' b' =>
    change (Nat.beq a' a && Nat.beq b' b) = true at h
    simp only [Bool.and_eq_true] at h
    exact ⟨_, rfl, by show AO.fam a' b' = .fam a b; rw [beq_true.1 h.1, beq_true.1 h.2]⟩
   | _ => cases h
 | map es clock =>
  cases o with
  | none => cases h
  | some ao =>
   cases ao with
   | map es' clock' =>
    change (Nat.beq clock' clock && sameEL es' es) = true at h
    simp only [Bool.and_eq_true] at h
    exact ⟨_, rfl, by show AO.map es' clock' = .map es clock; rw [beq_true.1 h.1, sameEL_eq h.2]⟩
   | _ => cases h
 | sit s pos =>
  cases o with
  | none => cases h
  | some ao =>
   cases ao with
   | sit s' pos' =>
    change (eqB s'.data.toList s.data.toList && Nat.beq pos' pos) = true at h
    simp only [Bool.and_eq_true] at h
    exact ⟨_, rfl, by show AO.sit s' pos' = .sit s pos; rw [bytes_eq' (eqB_eq h.1), beq_true.1 h.2]⟩
   | _ => cases h
 | dfr b =>
  cases o with
  | none => cases h
  | some ao =>
   cases ao with
   | dfr b' => exact ⟨_, rfl, by show AO.dfr b' = .dfr b; rw [eqBool_eq h]⟩
   | _ => cases h
 | tab vs =>
  cases o with
  | none => cases h
  | some ao =>
   cases ao with
   | tab t size =>
    change (Nat.beq size vs.length && sameO (t.getMany size 0) vs) = true at h
    simp only [Bool.and_eq_true] at h
    obtain ⟨h2, h3⟩ := h
    have h2 := beq_true.1 h2
    subst h2
    refine ⟨_, rfl, t, rfl, fun k v hk => ?_⟩
    rw [Tr.get_ofL] at hk
    unfold sameO at h3
    cases hm : t.getMany vs.length 0 with
    | none => rw [hm] at h3; cases h3
    | some l =>
     rw [hm] at h3
     have := sameVL_eq _ _ h3
     subst this
     have hlt := (List.getElem?_eq_some_iff.1 hk).1
     have := (Tr.getMany_some t _ 0 l hm).2 k hlt
     rw [Nat.zero_add] at this
     rw [this]; exact hk
   | _ => cases h
theorem subH_less {h : Hp} : ∀ {l : List (Nat × LO)}, subH h l = true → ∀ b o, (hpOf l).get b = some o → ∃ ao, h.get b = some ao ∧ Less o ao
 | [], _ => fun b o hb => by
  have : (Tr.leaf : Hp).get b = some o := hb
  rw [Tr.get_leaf] at this; cases this
 | p :: l, hs => fun b o hb => by
  change @Bool.rec (fun _ => Bool) false (subH h l) (sameA (h.get p.1) p.2) = true at hs
  cases hA : sameA (h.get p.1) p.2 with
  | false => rw [hA] at hs; cases hs
  | true =>
   rw [hA] at hs
   change (Tr.set (hpOf l) p.1 (aoOf p.2)).get b = some o at hb
   rw [Tr.get_set] at hb
   by_cases e : p.1 = b
   ·rw [if_pos e] at hb; cases hb
    rw [← e]; exact sameA_less hA
   ·rw [if_neg e] at hb
    exact subH_less hs b o hb
theorem Less.fam {o' o : AO} (h : Less o' o) : famOf o = famOf o' := by
 cases o' <;> first | (obtain ⟨t, e, _⟩ := h; rw [e]; rfl) | (have : o = _ := h; rw [this])
theorem Less.size {o' o : AO} (h : Less o' o) : sizeOfA o = sizeOfA o' := by
 cases o' <;> first | (obtain ⟨t, e, _⟩ := h; rw [e]; rfl) | (have : o = _ := h; rw [this])
theorem Less.isFam {o' o : AO} (h : Less o' o) : isFam o ↔ isFam o' := by
 cases o' <;> first | (obtain ⟨t, e, _⟩ := h; rw [e]; exact Iff.rfl) | (have : o = _ := h; rw [this])
theorem Less.isTab {o' o : AO} (h : Less o' o) : isTab o ↔ isTab o' := by
 cases o' <;> first | (obtain ⟨t, e, _⟩ := h; rw [e]; exact Iff.rfl) | (have : o = _ := h; rw [this])
theorem Less.or {σ : Sg} {w : World} {i : BI} {o' o : AO} (h : Less o' o) (ho : OR σ w i o) : OR σ w i o' := by
 cases o' with
 | cells t' size root =>
  obtain ⟨t, e, hk⟩ := h
  subst e
  obtain ⟨cs, el, fr, h1, h2, h3, h4, h5, h6⟩ := ho
  exact ⟨cs, el, fr, h1, h2, h3, h4, fun k v hks hkv => h5 k v hks (hk k v hkv), h6.1, fun T hT => h6.2 T (hk _ _ hT)⟩
 | tab t' size =>
  obtain ⟨t, e, hk⟩ := h
  subst e
  obtain ⟨cs, el, fr, h1, h2, h3, h4⟩ := ho
  exact ⟨cs, el, fr, h1, h2, h3, fun k v hks hkv => h4 k v hks (hk k v hkv)⟩
 | _ => have : o = _ := h; rw [this] at ho; exact ho
theorem Rel.part {σ : Sg} {h h' : Hp} {nx : Nat} {w : World} (R : Rel σ h nx w) (hs : ∀ b o, h'.get b = some o → ∃ ao, h.get b = some ao ∧ Less o ao) : Rel σ h' nx w := by
 have hfam : ∀ r f, famO (h'.get r) = some f → famO (h.get r) = some f := by
  intro r f hf
  have := famO_of hf
  obtain ⟨ao, h1, h2⟩ := hs r _ this
  have h3 : ao = AO.fam f.1 f.2 := h2
  rw [h1, h3]; rfl
 have hlive : ∀ b o ao, Less o ao → live h' b o → live h b ao := by
  intro b o ao hl hlv
  cases o with
  | cells t size root =>
   obtain ⟨t2, e, _⟩ := hl
   subst e
   show liveB h b root = true
   have hlv : liveB h' b root = true := hlv
   by_cases hr : root = 0
   ·subst hr; rfl
   ·rw [liveB_ne hr] at hlv ⊢
    cases hf : famO (h'.get root) with
    | none => rw [hf] at hlv; cases hlv
    | some f => rw [hf] at hlv; rw [hfam root f hf]; exact hlv
  | tab t size => obtain ⟨t2, e, _⟩ := hl; subst e; trivial
  | _ => have : ao = _ := hl; rw [this]; trivial
 refine ⟨⟨?_, ?_, ?_, ?_, ?_, ?_, ?_, R.gl⟩, R.fz.less (fun _ _ h => h) fun r ⟨b, o, i, hb, hj, he, hnt⟩ => by
  obtain ⟨ao, h1, h2⟩ := hs b o hb
  exact ⟨b, ao, i, h1, hj, he, fun x => hnt (h2.isTab.1 x)⟩⟩
 ·intro b o hb
  obtain ⟨ao, h1, h2⟩ := hs b o hb
  rcases R.obj b ao h1 with h3 | ⟨i, hi, h3, h4⟩
  ·exact .inl (h2.isFam.1 h3)
  ·exact .inr ⟨i, hi, h3, fun hl => h2.or (h4 (hlive b o ao h2 hl))⟩
 ·intro b hb
  refine ⟨(R.new b hb).1, ?_⟩
  cases hg : h'.get b with
  | none => rfl
  | some o => obtain ⟨ao, h1, _⟩ := hs b o hg; rw [(R.new b hb).2] at h1; cases h1
 ·intro b la al hb
  obtain ⟨ao, h1, h2⟩ := hs b _ hb
  have h3 : ao = AO.fam la al := h2
  rw [h3] at h1
  exact R.fams b la al h1
 ·intro b1 b2 o1 o2 i1 i2 g1 g2 l1 l2 s1 s2 hne hr
  obtain ⟨a1, p1, q1⟩ := hs b1 o1 g1
  obtain ⟨a2, p2, q2⟩ := hs b2 o2 g2
  have := R.sep b1 b2 a1 a2 i1 i2 p1 p2 (hlive _ _ _ q1 l1) (hlive _ _ _ q2 l2) s1 s2 hne hr
  rw [q1.fam, q2.fam] at this; exact this
 ·intro b o L oL i iL al hb hl hfo hroot hL hlL hfL hsb hsL hr hne
  obtain ⟨a1, p1, q1⟩ := hs b o hb
  obtain ⟨a2, p2, q2⟩ := hs L oL hL
  obtain ⟨a3, p3, q3⟩ := hs _ _ hroot
  have h3 : a3 = AO.fam L al := q3
  rw [h3] at p3
  have := R.lat b a1 L a2 i iL al p1 (hlive _ _ _ q1 hl) (by rw [q1.fam]; exact hfo) (by rw [q1.fam]; exact p3) p2 (hlive _ _ _ q2 hlL) (by rw [q1.fam, q2.fam]; exact hfL) hsb hsL hr hne
  rw [q1.size, q2.size] at this; exact this
 ·intro b o L al hb hfo hroot
  obtain ⟨a1, p1, q1⟩ := hs b o hb
  obtain ⟨a3, p3, q3⟩ := hs _ _ hroot
  have h3 : a3 = AO.fam L al := q3
  rw [h3] at p3
  exact R.mx b a1 L al p1 (by rw [q1.fam]; exact hfo) (by rw [q1.fam]; exact p3)
 ·intro b hb
  obtain ⟨a1, a2, a3⟩ := R.rsv b hb
  refine ⟨a1, a2, ?_⟩
  cases hg : h'.get b with
  | none => rfl
  | some o => obtain ⟨ao, h1, _⟩ := hs b o hg; rw [a3] at h1; cases h1
theorem Fwd.part {σ σ' : Sg} {h h0 h' : Hp} {w w' : World} (F : Fwd σ h0 w σ' h' w') (hs : ∀ b o, h0.get b = some o → ∃ ao, h.get b = some ao ∧ Less o ao) : Fwd σ h w σ' h' w' := by
 have hIm : ∀ r, Im σ h0 r → Im σ h r := by
  rintro r ⟨b, o, i, hb, hi, hr⟩
  obtain ⟨ao, h1, _⟩ := hs b o hb
  exact ⟨b, ao, i, h1, hi, hr⟩
 have hIt : ∀ r, It σ h0 r → It σ h r := by
  rintro r ⟨b, o, i, hb, hi, hr, hnt⟩
  obtain ⟨ao, h1, hls⟩ := hs b o hb
  exact ⟨b, ao, i, h1, hi, hr, fun x => hnt (hls.isTab.1 x)⟩
 exact ⟨F.sub, F.os, F.tape, F.output, F.size, fun r hr => (F.image r hr).imp (hIm r) id, fun r hr => (F.imt r hr).imp (hIt r) id, fun r hr hn => F.frame r hr fun hi => hn (hIt r hi), F.fr⟩
theorem leaf_get {α : Type} (b : Nat) : (Tr.leaf : Tr α).get b = none := by
 have := Tr.get_ofL ([] : List α) b
 simpa [Tr.ofL, Tr.setMany, Tr.setManyP] using this
theorem hpOf_get : ∀ {l : List (Nat × LO)} {b : Nat} {o : AO}, (hpOf l).get b = some o → ∃ lo, (b, lo) ∈ l ∧ o = aoOf lo
 | [], b, o, h => by
  have : (Tr.leaf : Hp).get b = some o := h
  rw [leaf_get] at this; cases this
 | p :: l, b, o, h => by
  change (Tr.set (hpOf l) p.1 (aoOf p.2)).get b = some o at h
  rw [Tr.get_set] at h
  by_cases e : p.1 = b
  ·rw [if_pos e] at h; cases h
   exact ⟨p.2, by rw [← e]; exact List.mem_cons_self .., rfl⟩
  ·rw [if_neg e] at h
   obtain ⟨lo, h1, h2⟩ := hpOf_get h
   exact ⟨lo, List.mem_cons_of_mem _ h1, h2⟩
theorem Less.trans {o1 o2 o3 : AO} (h : Less o1 o2) (k : Less o2 o3) : Less o1 o3 := by
 cases o1 with
 | cells t size root =>
  obtain ⟨t2, e, hk⟩ := h
  subst e
  obtain ⟨t3, e, hk2⟩ := k
  exact ⟨t3, e, fun j v hv => hk2 j v (hk j v hv)⟩
 | tab t size =>
  obtain ⟨t2, e, hk⟩ := h
  subst e
  obtain ⟨t3, e, hk2⟩ := k
  exact ⟨t3, e, fun j v hv => hk2 j v (hk j v hv)⟩
 | _ => have e : o2 = _ := h; subst e; exact k
def Sub (h' h : Hp) : Prop := ∀ b o, h'.get b = some o → ∃ ao, h.get b = some ao ∧ Less o ao
theorem Less.refl (o : AO) : Less o o := by
 cases o <;> first | exact ⟨_, rfl, fun _ _ h => h⟩ | exact rfl
theorem Sub.refl (h : Hp) : Sub h h := fun b o hb => ⟨o, hb, Less.refl o⟩
theorem Sub.trans {h1 h2 h3 : Hp} (a : Sub h1 h2) (b : Sub h2 h3) : Sub h1 h3 := fun n o hn => by
 obtain ⟨o2, e2, l2⟩ := a n o hn
 obtain ⟨o3, e3, l3⟩ := b n o2 e2
 exact ⟨o3, e3, l2.trans l3⟩
theorem candL_mem {h1 h2 : Hp} : ∀ {n : Nat} {p : Nat × LO}, p ∈ candL h1 h2 n → sameA (h1.get p.1) p.2 = true ∧ sameA (h2.get p.1) p.2 = true
 | 0, p, h => by cases h
 | n + 1, p, h => by
  change p ∈ candO (loOf (h1.get n)) (h1.get n) (h2.get n) n (candL h1 h2 n) at h
  unfold candO at h
  cases hl : loOf (h1.get n) with
  | none => rw [hl] at h; exact candL_mem h
  | some lo =>
   rw [hl] at h
   simp only at h
   unfold candB at h
   cases hb : (sameA (h1.get n) lo && sameA (h2.get n) lo) with
   | false => rw [hb] at h; exact candL_mem h
   | true =>
    rw [hb] at h
    rcases List.mem_cons.1 h with rfl | h
    ·simpa [Bool.and_eq_true] using hb
    ·exact candL_mem h
theorem candL_sub (h1 h2 : Hp) (n : Nat) : Sub (hpOf (candL h1 h2 n)) h1 ∧ Sub (hpOf (candL h1 h2 n)) h2 := by
 constructor
 ·intro b o hb
  obtain ⟨lo, h3, h4⟩ := hpOf_get hb
  rw [h4]; exact sameA_less (candL_mem h3).1
 ·intro b o hb
  obtain ⟨lo, h3, h4⟩ := hpOf_get hb
  rw [h4]; exact sameA_less (candL_mem h3).2
theorem Fwd.less {σ σ' : Sg} {h h' h'' : Hp} {w w' : World} (F : Fwd σ h w σ' h' w') (hs : Sub h'' h') : Fwd σ h w σ' h'' w' where
 sub := F.sub
 os := F.os
 tape := F.tape
 output := F.output
 size := F.size
 image r hr := F.image r (by
  obtain ⟨b, o, i, hb, hi, hir⟩ := hr
  obtain ⟨ao, h1, _⟩ := hs b o hb
  exact ⟨b, ao, i, h1, hi, hir⟩)
 imt r hr := F.imt r (by
  obtain ⟨b, o, i, hb, hi, hir, hnt⟩ := hr
  obtain ⟨ao, h1, hls⟩ := hs b o hb
  exact ⟨b, ao, i, h1, hi, hir, fun x => hnt (hls.isTab.1 x)⟩)
 frame := F.frame
 fr := F.fr
theorem outs_end {fn : Func} {r : Rec} (G : RecGood E.P r) {σ : Sg} {h : Hp} {nx : Nat} {w : World} {S : Sx} {n0 : Nat} : ∀ (c : FC) (v : Value) (h' : Hp) (nx' : Nat), fEnd E.P fn.results.toList fn.name r n0 c = .ok v h' nx' →
  ∀ vJ hJ nxJ, Wk v vJ → Sub hJ h' → nx' ≤ nxJ → Outs σ h nx w S fn.ntmps none (bodyPostM Fence.wide 0 E.P fn (Post σ h nx w vJ hJ nxJ)) c := by
 intro c
 induction c with
 | no _ _ => intro v h' nx' e; cases e
 | fork a b iha ihb =>
  intro v h' nx' e vJ hJ nxJ hW hH hn
  change joinH n0 (fEnd E.P fn.results.toList fn.name r n0 a) (fEnd E.P fn.results.toList fn.name r n0 b) = _ at e
  cases ha : fEnd E.P fn.results.toList fn.name r n0 a with
  | no _ _ => rw [ha] at e; cases e
  | ok va h1 n1 =>
   cases hb : fEnd E.P fn.results.toList fn.name r n0 b with
   | no _ _ => rw [ha, hb] at e; cases e
   | ok vb h2 n2 =>
    rw [ha, hb] at e
    change H.ok (joinV va vb) (hpOf (candL h1 h2 n0)) (maxB n1 n2) = _ at e
    cases e
    have hsub := candL_sub h1 h2 n0
    have hmx : n1 ≤ maxB n1 n2 ∧ n2 ≤ maxB n1 n2 := by
     show n1 ≤ (match Nat.ble n1 n2 with | true => n2 | false => n1) ∧ n2 ≤ (match Nat.ble n1 n2 with | true => n2 | false => n1)
     cases hble : Nat.ble n1 n2 with
     | true => exact ⟨ble_true.1 hble, Nat.le_refl _⟩
     | false =>
      have : ¬ n1 ≤ n2 := fun hh => by rw [ble_true.2 hh] at hble; cases hble
      exact ⟨Nat.le_refl _, Nat.le_of_not_le this⟩
    have hj := joinV_wk va vb
    exact ⟨iha va h1 n1 ha vJ hJ nxJ (fun σ v' hv => hW σ v' (hj.1 σ v' hv)) (hH.trans hsub.1) (Nat.le_trans hmx.1 hn),
     ihb vb h2 n2 hb vJ hJ nxJ (fun σ v' hv => hW σ v' (hj.2 σ v' hv)) (hH.trans hsub.2) (Nat.le_trans hmx.2 hn)⟩
 | ok e tm df h2 nx2 =>
  intro v h' nx' ee vJ hJ nxJ hW hH hn
  change callEnd E.P fn.results.toList fn.name r (.ok e tm df h2 nx2) = _ at ee
  have main : leaves E.P fn.results.toList tm (evEnd r df h2 nx2) = .ok v h' nx' →
    ∀ σ1 a1 w1, St σ1 h2 nx2 w1 S fn.ntmps tm df a1 none → Fwd σ h w σ1 h2 w1 → nx ≤ nx2 → LeavesInM Fence.wide 0 E.P fn a1.tmps (Post σ h nx w vJ hJ nxJ) a1.defers .returning w1 := by
   intro hl σ1 a1 w1 s1 f1 hnn
   cases hee : evEnd r df h2 nx2 with
   | no _ _ => rw [hee] at hl; cases hl
   | ok u3 h3 nx3 =>
    rw [hee] at hl
    change resV (evResults E.P fn.results.toList tm h3) h3 nx3 = .ok v h' nx' at hl
    refine leaves_good G df a1.defers h2 h3 nx2 nx3 σ1 w1 u3 s1.D s1.R s1.pos hee fun σ2 w2 r2 f2 hn2 => ?_
    obtain ⟨e1, e2, v', e3, e4⟩ := results_good r2 (s1.T.mono f2.sub.fn) hl
    subst e1 e2
    have hF := f1.trans f2
    exact ⟨v', e3, v', σ2, rfl, (r2.part hH).up hn, hF.less hH, hW _ _ e4, by omega⟩
  cases e with
  | normal => exact fun σ1 a1 w1 s1 f1 hnn => main ee σ1 a1 w1 s1 f1 hnn
  | ret => exact fun σ1 a1 w1 s1 f1 hnn => main ee σ1 a1 w1 s1 f1 hnn
  | exit id => cases ee
  | goto l => cases ee
theorem fbodyF_good (hd : DrawGood E.P) (hN : NameGood E.P) {r : Rec} (G : RecGood E.P r) {g : FuncId} {fn : Func} {c : Code} (hf : E.P.funcs[g]? = some fn) (hb : fn.body = some c)
  {args args' : List Value} {h : Hp} {nx : Nat} {σ : Sg} {w : World} (R : Rel σ h nx w) (hpos : 1 ≤ nx) (hv : VRL σ args args') :
  CallRes E.P g args' σ h nx w ((fBodyF E.P g fn (fCode E.P fn.ntmps c)).f r args h nx) := by
 let S : Sx := { ro := none, fn := g, nt := fn.ntmps }
 let a0 : Act := { tmps := (⟨args'⟩ : Array Value) ++ Array.replicate (fn.ntmps - args'.length) undef, defers := [] }
 have s : St σ h nx w S fn.ntmps (Tr.ofL args) [] a0 none := ⟨R, hpos, rfl, enter_TR hv fn.ntmps, trivial, trivial⟩
 have hB := fcode_good hd c r G S none (Tr.ofL args) [] h nx σ w a0 s
 show CallRes E.P g args' σ h nx w (fEnd E.P fn.results.toList fn.name r nx ((fCode E.P fn.ntmps c).f r S (Tr.ofL args) [] h nx))
 cases hres : fEnd E.P fn.results.toList fn.name r nx ((fCode E.P fn.ntmps c).f r S (Tr.ofL args) [] h nx) with
 | no _ _ => trivial
 | ok v h' nx' =>
  refine .inr ⟨run_enter hN hf hb _ _, ?_⟩
  refine callsIn_of_wp_marks hf hb trivial ?_ rfl
  have hw := hB (bodyPostM Fence.wide 0 E.P fn (Post σ h nx w v h' nx')) (outs_end G _ v h' nx' hres v h' nx' (fun _ _ h => h) (Sub.refl _) (Nat.le_refl _))
  have hsz : (⟨args'⟩ : Array Value).size = args'.length := rfl
  rw [hsz]
  exact hw
theorem CallRes.part {P : Program} {g : FuncId} {args' : List Value} {σ : Sg} {h h0 : Hp} {nx : Nat} {w : World} {res : H} (hc : CallRes P g args' σ h0 nx w res) (hs : ∀ b o, h0.get b = some o → ∃ ao, h.get b = some ao ∧ Less o ao) : CallRes P g args' σ h nx w res := by
 cases res with
 | no _ _ => trivial
 | ok v h' nx' =>
  rcases hc with ⟨v', w1, σ', h1, h2, h3, h4, h5⟩ | ⟨h1, h2⟩
  ·exact .inl ⟨v', w1, σ', h1, h2, h3.part hs, h4, h5⟩
  ·refine .inr ⟨h1, CallsIn.mono h2 fun e w1 he => ?_⟩
   obtain ⟨v', σ', e1, e2, e3, e4, e5⟩ := he
   exact ⟨v', σ', e1, e2, e3.part hs, e4, e5⟩
theorem hpOf_lk : ∀ (l : List (Nat × LO)) (b : Nat), (hpOf l).get b = (lk l b).map aoOf
 | [], b => leaf_get b
 | p :: l, b => by
  change (Tr.set (hpOf l) p.1 (aoOf p.2)).get b = _
  rw [Tr.get_set]
  unfold lk
  by_cases e : p.1 = b
  ·rw [if_pos e, if_pos e]; rfl
  ·rw [if_neg e, if_neg e]; exact hpOf_lk l b
theorem lk_mem : ∀ {l : List (Nat × LO)} {b : Nat} {x : LO}, lk l b = some x → (b, x) ∈ l
 | [], b, x, h => by cases h
 | p :: l, b, x, h => by
  unfold lk at h
  by_cases e : p.1 = b
  ·rw [if_pos e] at h; cases h; rw [← e]; exact List.mem_cons_self ..
  ·rw [if_neg e] at h; exact List.mem_cons_of_mem _ (lk_mem h)
theorem putH_get {h : Hp} : ∀ (l : List (Nat × LO)) (b : Nat), (putH h l).get b = match lk l b with | some lo => some (aoOf lo) | none => h.get b
 | [], b => rfl
 | p :: l, b => by
  change (Tr.set (putH h l) p.1 (aoOf p.2)).get b = _
  rw [Tr.get_set]
  unfold lk
  by_cases e : p.1 = b
  ·rw [if_pos e, if_pos e]
  ·rw [if_neg e, if_neg e]; exact putH_get l b
theorem lk_cons (p : Nat × LO) (l : List (Nat × LO)) (b : Nat) : lk (p :: l) b = if p.1 = b then some p.2 else lk l b := rfl
theorem delH_get : ∀ (l : List (Nat × LO)) (h : Hp) (b : Nat), (delH l h).get b = match lk l b with | some _ => none | none => h.get b
 | [], h, b => rfl
 | p :: l, h, b => by
  change (delH l (Tr.setP none (path p.1) h)).get b = _
  rw [delH_get l, lk_cons]
  have e0 : (Tr.setP none (path p.1) h).get b = if p.1 = b then none else h.get b := by
   show Tr.getP (path b) (Tr.setP none (path p.1) h) = _
   rw [getP_setP]
   by_cases e : p.1 = b
   ·rw [if_pos (by rw [e]), if_pos e]
   ·rw [if_neg (fun x => e (path_inj x)), if_neg e]; rfl
  rw [e0]
  by_cases e : p.1 = b
  ·rw [if_pos e, if_pos e]; cases lk l b <;> rfl
  ·rw [if_neg e, if_neg e]
theorem overH_get (h : Hp) (r : HRow) (b : Nat) : (overH h r).get b = match lk r.h' b with | some lo => some (aoOf lo) | none => match lk r.h b with | some _ => none | none => h.get b := by
 unfold overH
 rw [putH_get, delH_get]
theorem hasKey_lk : ∀ {l : List (Nat × LO)} {b : Nat}, hasKey l b = true → lk l b ≠ none
 | [], b, h => by cases h
 | p :: l, b, h => by
  change @Bool.rec (fun _ => Bool) (hasKey l b) true (Nat.beq p.1 b) = true at h
  unfold lk
  by_cases e : p.1 = b
  ·rw [if_pos e]; simp
  ·rw [if_neg e]
   cases hb : Nat.beq p.1 b with
   | true => exact absurd (beq_true.1 hb) e
   | false => rw [hb] at h; exact hasKey_lk h
theorem famFree_spec {h : Hp} {l : List (Nat × LO)} {f al : Nat} : ∀ {n : Nat}, famFree h l f al n = true → ∀ k, k < n → ∀ t size, h.get (al + k) = some (.cells t size f) → hasKey l (al + k) = true
 | 0, _, k, hk, _, _, _ => by omega
 | n + 1, hh, k, hk, t, size, hg => by
  change @Bool.rec (fun _ => Bool) (famFree h l f al n) (@Bool.rec (fun _ => Bool) false (famFree h l f al n) (hasKey l (al + n))) (rootIs (h.get (al + n)) f) = true at hh
  have hrest : famFree h l f al n = true := by
   cases hr : rootIs (h.get (al + n)) f with
   | false => rw [hr] at hh; exact hh
   | true =>
    rw [hr] at hh
    cases hx : hasKey l (al + n) with
    | false => rw [hx] at hh; cases hh
    | true => rw [hx] at hh; exact hh
  by_cases e : k = n
  ·subst e
   rw [hg] at hh
   have : rootIs (some (.cells t size f)) f = true := beq_true.2 rfl
   rw [this] at hh
   cases hx : hasKey l (al + k) with
   | false => rw [hx] at hh; cases hh
   | true => rfl
  ·exact famFree_spec hrest k (by omega) t size hg
theorem frameOk_spec {h : Hp} {l0 : List (Nat × LO)} : ∀ {l : List (Nat × LO)}, frameOk h l0 l = true → ∀ f la al, (f, LO.fam la al) ∈ l → ∀ b t size, al ≤ b → b ≤ la → h.get b = some (.cells t size f) → hasKey l0 b = true
 | [], _, _, _, _, hm, _, _, _, _, _, _ => by cases hm
 | p :: l, hh, f, la, al, hm, b, t, size, h1, h2, hg => by
  change famOne h l0 p.1 p.2 (frameOk h l0 l) = true at hh
  have hrest : frameOk h l0 l = true := by
   unfold famOne at hh
   split at hh
   ·rename_i la' al' _
    cases hx : famFree h l0 p.1 al' (Nat.sub (Nat.succ la') al') with
    | false => rw [hx] at hh; cases hh
    | true => rw [hx] at hh; exact hh
   ·exact hh
  rcases List.mem_cons.1 hm with e | hm
  ·subst e
   change @Bool.rec (fun _ => Bool) false (frameOk h l0 l) (famFree h l0 f al (Nat.sub (Nat.succ la) al)) = true at hh
   cases hx : famFree h l0 f al (Nat.sub (Nat.succ la) al) with
   | false => rw [hx] at hh; cases hh
   | true =>
    have := famFree_spec hx (b - al) (by show b - al < (la + 1) - al; omega) t size (by rw [show al + (b - al) = b by omega]; exact hg)
    rw [show al + (b - al) = b by omega] at this
    exact this
  ·exact frameOk_spec hrest f la al hm b t size h1 h2 hg
theorem liveB_of {h : Hp} {b f L al : Nat} (h0 : f ≠ 0) (hg : h.get f = some (.fam L al)) (hb : al ≤ b) : liveB h b f = true := by
 rw [liveB_ne h0, hg]
 exact ble_true.2 hb
theorem liveB_inv {h : Hp} {b f : Nat} (h0 : f ≠ 0) (hl : liveB h b f = true) : ∃ L al, h.get f = some (.fam L al) ∧ al ≤ b := by
 rw [liveB_ne h0] at hl
 cases hf : famO (h.get f) with
 | none => rw [hf] at hl; cases hl
 | some p => rw [hf] at hl; exact ⟨p.1, p.2, famO_of hf, ble_true.1 hl⟩
theorem fam_lo {lo : LO} {a b : Nat} (h : aoOf lo = .fam a b) : lo = .fam a b := by
 cases lo <;> first | cases h | skip
 rfl
theorem lk_at {l : List (Nat × LO)} {b : Nat} {x : LO} (h : lk l b = some x) : (hpOf l).get b = some (aoOf x) := by rw [hpOf_lk, h]; rfl
theorem at_lk {l : List (Nat × LO)} {b : Nat} {o : AO} (h : (hpOf l).get b = some o) : ∃ x, lk l b = some x ∧ o = aoOf x := by
 rw [hpOf_lk] at h
 cases hl : lk l b with
 | none => rw [hl] at h; cases h
 | some x => rw [hl] at h; exact ⟨x, rfl, (Option.some.inj h).symm⟩
structure Out (h : Hp) (r : HRow) (b : Nat) (o : AO) : Prop where
 new : lk r.h' b = none
 old : lk r.h b = none
 at_ : h.get b = some o
theorem overH_cases {h : Hp} {r : HRow} {b : Nat} {o : AO} (hg : (overH h r).get b = some o) : (∃ x, lk r.h' b = some x ∧ o = aoOf x) ∨ Out h r b o := by
 rw [overH_get] at hg
 cases h1 : lk r.h' b with
 | some x => rw [h1] at hg; exact .inl ⟨x, rfl, (Option.some.inj hg).symm⟩
 | none =>
  rw [h1] at hg
  cases h2 : lk r.h b with
  | some x => rw [h2] at hg; cases hg
  | none => rw [h2] at hg; exact .inr ⟨h1, h2, hg⟩
theorem overH_in {h : Hp} {r : HRow} {b : Nat} {x : LO} (h1 : lk r.h' b = some x) : (overH h r).get b = some (aoOf x) := by rw [overH_get, h1]
theorem frame_back {h : Hp} {r : HRow} {σ σ1 : Sg} {w w1 : World} {nx : Nat} (R : Rel σ h nx w) (hn : r.nx = nx) (hs : subH h r.h = true) (hf : frameOk h r.h r.h = true) (W : Wf r)
  (R1 : Rel σ1 (hpOf r.h') r.nx' w1) (F : Fwd ⟨σ.f, fun b => b < nx ∧ σ.f b = none ∧ (hpOf r.h).get b = none, σ.R⟩ (hpOf r.h) w σ1 (hpOf r.h') w1) (hnx : nx ≤ r.nx') :
  Rel (σ1.with σ.res) (overH h r) r.nx' w1 ∧ Fwd σ h w (σ1.with σ.res) (overH h r) w1 := by
 have hsub := subH_less hs
 have hle : ∀ b i, σ.f b = some i → σ1.f b = some i := fun b i h => F.sub.fn b i h
 have hm : Sg.sub σ1 (σ1.with σ.res) := ⟨fun _ _ h => h, fun _ _ h => h⟩
 have none1 : ∀ b, b < nx → σ.f b = none → (hpOf r.h).get b = none → σ1.f b = none ∧ (hpOf r.h').get b = none := fun b h1 h2 h3 => by
  have : σ1.res b := by rw [F.sub.res]; exact ⟨h1, h2, h3⟩
  exact (R1.rsv b this).2
 -- the families of what is written down, as they stand
 have famIn : ∀ f la al, lk r.h f = some (.fam la al) → h.get f = some (.fam la al) := fun f la al hk => by
  obtain ⟨ao, h1, h2⟩ := hsub f _ (lk_at hk)
  have h3 : ao = AO.fam la al := h2
  rw [h1, h3]
 have outLt : ∀ b o, Out h r b o → b < nx := fun b o ho => by
  rcases Nat.lt_or_ge b nx with hl | hl
  ·exact hl
  ·have := ho.at_; rw [(R.new b hl).2] at this; cases this
 have outNone : ∀ b o, Out h r b o → (hpOf r.h).get b = none := fun b o ho => by rw [hpOf_lk, ho.old]; rfl
 have outσ : ∀ b o i, Out h r b o → σ1.f b = some i → σ.f b = some i := fun b o i ho hi => by
  cases hx : σ.f b with
  | some j => rw [hle b j hx] at hi; exact hi
  | none => rw [(none1 b (outLt b o ho) hx (outNone b o ho)).1] at hi; cases hi
 have outLive : ∀ b o, Out h r b o → live (overH h r) b o → live h b o := fun b o ho hl => by
  cases o with
  | cells t size f =>
   by_cases h0 : f = 0
   ·subst h0; rfl
   ·obtain ⟨L, al, hg, hal⟩ := liveB_inv h0 hl
    rcases overH_cases hg with ⟨x, hx, ex⟩ | hx
    ·have := fam_lo ex.symm; subst this
     rcases Nat.lt_or_ge f r.nx with hlt | hge
     ·obtain ⟨la0, al0, k1, k2, _⟩ := W.up f L al hx hlt
      exact liveB_of h0 (famIn f la0 al0 k1) (by omega)
     ·have := (W.new f L al hx hge).1
      have := outLt b _ ho
      omega
    ·exact liveB_of h0 hx.at_ hal
  | _ => trivial
 have inLive : ∀ b x, lk r.h' b = some x → live (overH h r) b (aoOf x) → live (hpOf r.h') b (aoOf x) := fun b x hx hl => by
  cases x with
  | cells vs f =>
   by_cases h0 : f = 0
   ·subst h0; rfl
   ·obtain ⟨L, al, hg, hal⟩ := liveB_inv h0 hl
    obtain ⟨la', al', k⟩ := W.root b vs f hx h0
    rw [overH_in k] at hg
    cases hg
    exact liveB_of h0 (lk_at k) hal
  | _ => trivial
 -- what lives and is not written down lies apart
 have S : ∀ b o i, Out h r b o → live h b o → σ.f b = some i → ¬ Im σ (hpOf r.h) i.r := by
  rintro b o i ho hl hi ⟨b2, o2, i2, g2, s2, e⟩
  obtain ⟨x2, k2, e2⟩ := at_lk g2
  obtain ⟨ao2, a1, a2⟩ := hsub b2 o2 g2
  have hne : b ≠ b2 := fun e => by rw [e] at ho; have := ho.old; rw [k2] at this; cases this
  have hfo : famOf ao2 = famOf o2 := a2.fam
  have hl2 : live h b2 ao2 := by
   cases x2 with
   | cells vs f =>
    subst e2
    obtain ⟨t2, et, _⟩ := a2
    subst et
    by_cases h0 : f = 0
    ·subst h0; rfl
    ·obtain ⟨la, al, c1, c2⟩ := W.live b2 vs f k2 h0
     exact liveB_of h0 (famIn f la al c1) c2
   | tab vs => subst e2; obtain ⟨t2, et, _⟩ := a2; subst et; trivial
   | _ => subst e2; have : ao2 = _ := a2; subst this; trivial
  obtain ⟨q1, q2⟩ := R.sep b b2 o ao2 i i2 ho.at_ a1 hl hl2 hi s2 hne e.symm
  rw [hfo] at q1
  cases x2 with
  | cells vs f =>
   subst e2
   have q1' : famOf o = f := q1
   have h0 : f ≠ 0 := by rw [← q1']; exact q2
   obtain ⟨la, al, c1, c2⟩ := W.live b2 vs f k2 h0
   cases o with
   | cells t size f' =>
    have ef : f' = f := q1'
    subst ef
    obtain ⟨L, al2, d1, d2⟩ := liveB_inv h0 hl
    have d0 := famIn f' la al c1
    rw [d0] at d1; cases d1
    have hmx := R.mx b _ la al ho.at_ h0 d0
    have := frameOk_spec hf f' la al (lk_mem c1) b t size d2 hmx ho.at_
    exact hasKey_lk this ho.old
   | _ => exact q2 rfl
  | _ => subst e2; exact q2 q1
 have apart : ∀ b1 x1 b2 o2 i1 i2, lk r.h' b1 = some x1 → Out h r b2 o2 → live (overH h r) b2 o2 → σ1.f b1 = some i1 → σ1.f b2 = some i2 → i1.r ≠ i2.r := by
  intro b1 x1 b2 o2 i1 i2 h1 ho hl s1 s2 e
  have s2' := outσ b2 o2 i2 ho s2
  rcases F.image i1.r ⟨b1, _, i1, lk_at h1, s1, rfl⟩ with hi | hi
  ·rw [e] at hi
   exact S b2 o2 i2 ho (outLive b2 o2 ho hl) s2' hi
  ·rcases R.obj b2 o2 ho.at_ with hfm | ⟨j, hj, hlt, _⟩
   ·cases o2 with
    | fam la al => rw [R.fams b2 la al ho.at_] at s2'; cases s2'
    | _ => exact hfm.elim
   ·rw [hj] at s2'; cases s2'; omega
 have nofam : ∀ b o, Out h r b o → live (overH h r) b o → famOf o ≠ 0 → ∀ L al, (overH h r).get (famOf o) = some (.fam L al) → h.get (famOf o) = some (.fam L al) := by
  intro b o ho hl hfo L al hg
  rcases overH_cases hg with ⟨x, hx, ex⟩ | hx
  ·exfalso
   have := fam_lo ex.symm; subst this
   cases o with
   | cells t size f =>
    obtain ⟨L', al', d1, d2⟩ := liveB_inv hfo hl
    have hg' : (overH h r).get f = some (.fam L al) := hg
    have d1' : (overH h r).get f = some (.fam L' al') := d1
    rw [hg'] at d1'; cases d1'
    rcases Nat.lt_or_ge f r.nx with hlt | hge
    ·obtain ⟨la0, al0, k1, k2, _⟩ := W.up f L al hx hlt
     have hgf := famIn f la0 al0 k1
     have hmx := R.mx b _ la0 al0 ho.at_ hfo hgf
     have := frameOk_spec hf f la0 al0 (lk_mem k1) b t size (by omega) hmx ho.at_
     exact hasKey_lk this ho.old
    ·have := (W.new f L al hx hge).1
     have := outLt b _ ho
     omega
   | _ => exact hfo rfl
  ·exact hx.at_
 refine ⟨⟨⟨?_, ?_, ?_, ?_, ?_, ?_, ?_, R.gl.mono ⟨fun b i h => hle b i h, F.sub.fn.R⟩⟩, fun k ob hk => ⟨(R1.fz k ob hk).1, fun hi => ?_⟩⟩, ⟨⟨⟨hle, F.sub.fn.R⟩, rfl⟩, F.os, F.tape, F.output, F.size, ?_, ?_, ?_, F.fr⟩⟩
 ·intro b o hb
  rcases overH_cases hb with ⟨x, hx, ex⟩ | ho
  ·subst ex
   rcases R1.obj b _ (lk_at hx) with h1 | ⟨i, a, c, d⟩
   ·exact .inl h1
   ·exact .inr ⟨i, a, c, fun hl => (d (inLive b x hx hl)).mono hm⟩
  ·rcases R.obj b o ho.at_ with h1 | ⟨i, a, c, d⟩
   ·exact .inl h1
   ·refine .inr ⟨i, hle b i a, Nat.lt_of_lt_of_le c F.size, fun hl => ?_⟩
    have hlh := outLive b o ho hl
    have hns := S b o i ho hlh a
    have hfr := F.frame i.r c fun hi => hns hi.im
    exact ((d hlh).mono (τ := σ1.with σ.res) ⟨fun b i h => hle b i h, F.sub.fn.R⟩).world hfr
 ·intro b hb
  refine ⟨(R1.new b hb).1, ?_⟩
  cases hx : (overH h r).get b with
  | none => rfl
  | some o =>
   rcases overH_cases hx with ⟨x, h1, _⟩ | ho
   ·have := lk_at h1; rw [(R1.new b hb).2] at this; cases this
   ·have := outLt b o ho; omega
 ·intro b la al hb
  rcases overH_cases hb with ⟨x, hx, ex⟩ | ho
  ·exact R1.fams b la al (by rw [ex]; exact lk_at hx)
  ·exact (none1 b (outLt b _ ho) (R.fams b la al ho.at_) (outNone b _ ho)).1
 ·intro b1 b2 o1 o2 i1 i2 g1 g2 l1 l2 s1 s2 hne hr
  rcases overH_cases g1 with ⟨x1, h1, e1⟩ | ho1
  ·rcases overH_cases g2 with ⟨x2, h2, e2⟩ | ho2
   ·subst e1 e2
    exact R1.sep b1 b2 _ _ i1 i2 (lk_at h1) (lk_at h2) (inLive b1 x1 h1 l1) (inLive b2 x2 h2 l2) s1 s2 hne hr
   ·exact (apart b1 x1 b2 o2 i1 i2 h1 ho2 l2 s1 s2 hr).elim
  ·rcases overH_cases g2 with ⟨x2, h2, e2⟩ | ho2
   ·exact (apart b2 x2 b1 o1 i2 i1 h2 ho1 l1 s2 s1 hr.symm).elim
   ·exact R.sep b1 b2 o1 o2 i1 i2 ho1.at_ ho2.at_ (outLive b1 o1 ho1 l1) (outLive b2 o2 ho2 l2) (outσ b1 o1 i1 ho1 s1) (outσ b2 o2 i2 ho2 s2) hne hr
 ·intro b o L oL i iL al hb hl hfo hroot hL hlL hfL hsb hsL hr hne
  rcases overH_cases hb with ⟨x1, h1, e1⟩ | ho1
  ·rcases overH_cases hL with ⟨x2, h2, e2⟩ | ho2
   ·subst e1 e2
    have hroot' : (hpOf r.h').get (famOf (aoOf x1)) = some (.fam L al) := by
     cases x1 with
     | cells vs f =>
      obtain ⟨la', al', k⟩ := W.root b vs f h1 hfo
      have hg : (overH h r).get f = some (.fam L al) := hroot
      rw [overH_in k] at hg
      rw [← hg]; exact lk_at k
     | _ => exact (hfo rfl).elim
    exact R1.lat b _ L _ i iL al (lk_at h1) (inLive b x1 h1 hl) hfo hroot' (lk_at h2) (inLive L x2 h2 hlL) hfL hsb hsL hr hne
   ·exact (apart b x1 L oL i iL h1 ho2 hlL hsb hsL hr).elim
  ·rcases overH_cases hL with ⟨x2, h2, e2⟩ | ho2
   ·exact (apart L x2 b o iL i h2 ho1 hl hsL hsb hr.symm).elim
   ·exact R.lat b o L oL i iL al ho1.at_ (outLive b o ho1 hl) hfo (nofam b o ho1 hl hfo L al hroot) ho2.at_ (outLive L oL ho2 hlL) hfL (outσ b o i ho1 hsb) (outσ L oL iL ho2 hsL) hr hne
 ·intro b o L al hb hfo hroot
  rcases overH_cases hb with ⟨x1, h1, e1⟩ | ho1
  ·subst e1
   cases x1 with
   | cells vs f =>
    obtain ⟨la', al', k⟩ := W.root b vs f h1 hfo
    have hg : (overH h r).get f = some (.fam L al) := hroot
    rw [overH_in k] at hg
    exact R1.mx b _ L al (lk_at h1) hfo (by rw [← hg]; exact lk_at k)
   | _ => exact (hfo rfl).elim
  ·rcases overH_cases hroot with ⟨x, hx, ex⟩ | ho
   ·have := fam_lo ex.symm; subst this
    rcases Nat.lt_or_ge (famOf o) r.nx with hlt | hge
    ·obtain ⟨la0, al0, k1, _, k3⟩ := W.up _ L al hx hlt
     have := R.mx b o la0 al0 ho1.at_ hfo (famIn _ la0 al0 k1)
     omega
    ·have := (W.new _ L al hx hge).2
     have := outLt b o ho1
     omega
   ·exact R.mx b o L al ho1.at_ hfo ho.at_
 ·intro b hb
  obtain ⟨a1, a2, a3⟩ := R.rsv b hb
  have hn3 : (hpOf r.h).get b = none := by
   cases hx : (hpOf r.h).get b with
   | none => rfl
   | some o => obtain ⟨ao, h1, _⟩ := hsub b o hx; rw [a3] at h1; cases h1
  obtain ⟨c1, c2⟩ := none1 b a1 a2 hn3
  refine ⟨by omega, c1, ?_⟩
  cases hx : (overH h r).get b with
  | none => rfl
  | some o =>
   rcases overH_cases hx with ⟨x, h1, _⟩ | ho
   ·have := lk_at h1; rw [c2] at this; cases this
   ·have := ho.at_; rw [a3] at this; cases this
 ·obtain ⟨b, o, i, hb, hi, hr, ht⟩ := hi
  rcases overH_cases hb with ⟨x, hx, ex⟩ | ho
  ·subst ex
   exact (R1.fz k ob hk).2 ⟨b, _, i, lk_at hx, hi, hr, ht⟩
  ·have hs0 := outσ b o i ho hi
   rcases F.fr k ob hk with h1 | h1
   ·exact (R.fz k ob h1).2 ⟨b, o, i, ho.at_, hs0, hr, ht⟩
   ·rcases R.obj b o ho.at_ with h2 | ⟨j, hj, h2, _⟩
    ·exact R.notFam ho.at_ hs0 h2
    ·rw [hs0] at hj; cases hj; omega
 ·rintro k ⟨b, o, i, hb, hi, hr⟩
  rcases overH_cases hb with ⟨x, hx, ex⟩ | ho
  ·rcases F.image k ⟨b, _, i, lk_at hx, hi, hr⟩ with ⟨b', o', i', g', s', e'⟩ | h1
   ·obtain ⟨ao, h1, _⟩ := hsub b' o' g'
    exact .inl ⟨b', ao, i', h1, s', e'⟩
   ·exact .inr h1
  ·exact .inl ⟨b, o, i, ho.at_, outσ b o i ho hi, hr⟩
 ·rintro k ⟨b, o, i, hb, hi, hr, ht⟩
  rcases overH_cases hb with ⟨x, hx, ex⟩ | ho
  ·subst ex
   rcases F.imt k ⟨b, _, i, lk_at hx, hi, hr, ht⟩ with ⟨b', o', i', g', s', e', t'⟩ | h1
   ·obtain ⟨ao, h1, h2⟩ := hsub b' o' g'
    exact .inl ⟨b', ao, i', h1, s', e', fun x => t' (h2.isTab.1 x)⟩
   ·exact .inr h1
  ·exact .inl ⟨b, o, i, ho.at_, outσ b o i ho hi, hr, ht⟩
 ·intro k hk hn
  refine F.frame k hk fun hi => hn ?_
  obtain ⟨b', o', i', g', s', e', t'⟩ := hi
  obtain ⟨ao, h1, h2⟩ := hsub b' o' g'
  exact ⟨b', ao, i', h1, s', e', fun x => t' (h2.isTab.1 x)⟩
theorem frame_good {P : Program} {g : FuncId} {args' : List Value} {σ : Sg} {h : Hp} {nx : Nat} {w : World} {r : HRow} (R : Rel σ h nx w) (hn : r.nx = nx) (hs : subH h r.h = true) (hf : frameOk h r.h r.h = true)
  (hg : RowHGood P g r) (hv : VRL σ r.a args') : CallRes P g args' σ h nx w (.ok r.v (overH h r) r.nx') := by
 obtain ⟨W, hg⟩ := hg
 let σ0 : Sg := ⟨σ.f, fun b => b < nx ∧ σ.f b = none ∧ (hpOf r.h).get b = none, σ.R⟩
 have hm : Sg.sub σ σ0 := ⟨fun _ _ h => h, fun _ _ h => h⟩
 have Rp := R.part (subH_less hs)
 have R0 : Rel σ0 (hpOf r.h) r.nx w := by
  rw [hn]
  exact ⟨⟨fun b o hb => (Rp.obj b o hb).imp id fun ⟨i, a, c, d⟩ => ⟨i, a, c, fun hl => (d hl).mono hm⟩, Rp.new, Rp.fams, Rp.sep, Rp.lat, Rp.mx, fun b hb => hb, Rp.gl⟩, Rp.fz⟩
 have C := hg σ0 w args' R0 (hv.mono hm)
 rcases C with ⟨v', w1, σ1, h1, h2, h3, h4, h5⟩ | ⟨h1, h2⟩
 ·rw [hn] at h5
  obtain ⟨a, b⟩ := frame_back R hn hs hf W h2 h3 h5
  exact .inl ⟨v', w1, σ1.with σ.res, h1, a, b, h4.mono (show Sg.sub σ1 (σ1.with σ.res) from ⟨fun _ _ h => h, fun _ _ h => h⟩), h5⟩
 ·refine .inr ⟨h1, CallsIn.mono h2 fun e w1 he => ?_⟩
  obtain ⟨v', σ1, e1, e2, e3, e4, e5⟩ := he
  rw [hn] at e5
  obtain ⟨a, b⟩ := frame_back R hn hs hf W e2 e3 e5
  exact ⟨v', σ1.with σ.res, e1, a, b, e4.mono (show Sg.sub σ1 (σ1.with σ.res) from ⟨fun _ _ h => h, fun _ _ h => h⟩), e5⟩
theorem setK_eq (v : Option AO) : ∀ (p : List Bool) (t : Hp) (k : Hp → H), setK v p t k = k (Tr.setP v p t)
 | [], t, k => by cases t <;> rfl
 | b :: p, t, k => by
  cases t with
  | leaf =>
   cases b with
   | true =>
    show setK v p .leaf (fun l => k (.node l none .leaf)) = _
    rw [setK_eq v p]
    show _ = k (@Tr.rec AO (fun _ => Hp) (.node .leaf none .leaf) (fun a x c _ _ => .node (.node a x c) none .leaf) (Tr.setP v p .leaf))
    cases Tr.setP v p .leaf <;> rfl
   | false =>
    show setK v p .leaf (fun r => k (.node .leaf none r)) = _
    rw [setK_eq v p]
    show _ = k (@Tr.rec AO (fun _ => Hp) (.node .leaf none .leaf) (fun a x c _ _ => .node .leaf none (.node a x c)) (Tr.setP v p .leaf))
    cases Tr.setP v p .leaf <;> rfl
  | node l x r =>
   cases b with
   | true =>
    show setK v p l (fun l => k (.node l x r)) = _
    rw [setK_eq v p]
    show _ = k (@Tr.rec AO (fun _ => Hp) (.node .leaf x r) (fun a y c _ _ => .node (.node a y c) x r) (Tr.setP v p l))
    cases Tr.setP v p l <;> rfl
   | false =>
    show setK v p r (fun r => k (.node l x r)) = _
    rw [setK_eq v p]
    show _ = k (@Tr.rec AO (fun _ => Hp) (.node l x .leaf) (fun a y c _ _ => .node l x (.node a y c)) (Tr.setP v p r))
    cases Tr.setP v p r <;> rfl
theorem delK_eq : ∀ (l : List (Nat × LO)) (h : Hp) (k : Hp → H), delK l h k = k (delH l h)
 | [], h, k => rfl
 | p :: l, h, k => by
  show setK none (path p.1) h (fun h => delK l h k) = _
  rw [setK_eq, delK_eq l]; rfl
theorem putK_eq : ∀ (l : List (Nat × LO)) (h : Hp) (k : Hp → H), putK l h k = k (putH h l)
 | [], h, k => rfl
 | p :: l, h, k => by
  show putK l h (fun h => setK (some (aoOf p.2)) (path p.1) h k) = _
  rw [putK_eq l, setK_eq]; rfl
theorem hvAll_good {P : Program} {g : FuncId} {args args' : List Value} {σ : Sg} {h : Hp} {nx : Nat} {w : World} (R : Rel σ h nx w) (hv : VRL σ args args') {k : H} (hk : CallRes P g args' σ h nx w k) :
  ∀ (l : List HRow), (∀ r ∈ l, RowHGood P g r) → CallRes P g args' σ h nx w (hvAll l args h nx k)
 | [], _ => hk
 | r :: l, hl => by
  show CallRes P g args' σ h nx w (match Nat.beq r.nx nx with | true => hvOne r args h k | false => hvAll l args h nx k)
  cases hb : Nat.beq r.nx nx with
  | false => exact hvAll_good R hv hk l fun x hx => hl x (List.mem_cons_of_mem _ hx)
  | true =>
   show CallRes P g args' σ h nx w (match sameVL r.a args && (subH h r.h && frameOk h r.h r.h) with | true => delK r.h h (fun h => putK r.h' h fun h => H.ok r.v h r.nx') | false => k)
   rw [delK_eq, putK_eq]
   show CallRes P g args' σ h nx w (match sameVL r.a args && (subH h r.h && frameOk h r.h r.h) with | true => H.ok r.v (overH h r) r.nx' | false => k)
   cases hc : (sameVL r.a args && (subH h r.h && frameOk h r.h r.h)) with
   | false => exact hk
   | true =>
    simp only [Bool.and_eq_true] at hc
    have ha := sameVL_eq _ _ hc.1
    exact frame_good R (beq_true.1 hb) hc.2.1 hc.2.2 (hl r (List.mem_cons_self ..)) (by rw [ha]; exact hv)
theorem call_good (hd : DrawGood E.P) (hN : NameGood E.P) (hE : ExtGood E) (hO : OvGood E) (hH : HvGood E) (hS : SrGood E) (hF : FzGood E) {r : Rec} (G : RecGood E.P r) (g : FuncId)
  (args args' : List Value) (h : Hp) (nx : Nat) (σ : Sg) (w : World) (R : Rel σ h nx w) (hpos : 1 ≤ nx) (hv : VRL σ args args') :
  CallRes E.P g args' σ h nx w ((cFn E g).f r args h nx) := by
 have plain : CallRes E.P g args' σ h nx w ((cFn1 E g (E.P.funcs[g]?)).f r args h nx) := by
  cases hf : E.P.funcs[g]? with
  | none => trivial
  | some fn =>
   show CallRes E.P g args' σ h nx w ((cFn2 E g fn fn.body).f r args h nx)
   cases hb : fn.body with
   | some c =>
    show CallRes E.P g args' σ h nx w ((cFn3 E g fn c (E.fk g)).f r args h nx)
    cases E.fk g with
    | false => exact bodyF_good hd hN G hf hb R hpos hv
    | true => exact fbodyF_good hd hN G hf hb R hpos hv
   | none =>
    show CallRes E.P g args' σ h nx w ((cExt (E.ext g) fn.name).f r args h nx)
    cases he : E.ext g with
    | none => trivial
    | some e =>
     show CallRes E.P g args' σ h nx w (evExtH e args h nx)
     cases hx : evExtH e args h nx with
     | ok v h' nx' => exact .inl (hE g fn e hf hb he args args' h nx σ w v h' nx' R hpos hv hx)
     | no _ _ => trivial
 have hov : CallRes E.P g args' σ h nx w ((cOv (E.ov g) (cFn1 E g (E.P.funcs[g]?))).f r args h nx) := by
  cases ho : E.ov g with
  | none => exact plain
  | some f =>
   show CallRes E.P g args' σ h nx w (ovEnd (cFn1 E g (E.P.funcs[g]?)) (f args) r args h nx)
   cases hfa : f args with
   | none => exact plain
   | some v =>
    obtain ⟨h1, h2, h3⟩ := hO g f ho args v hfa
    have hargs : args' = args := flatL_eq hv h1
    subst hargs
    obtain ⟨h4, h5⟩ := h3 w
    refine .inr ⟨h4, CallsIn.mono h5 fun e w1 hw => ?_⟩
    obtain ⟨he, hos, htp, hout, hsz, hfr⟩ := hw
    exact ⟨v, σ, he, R.grown hsz hfr, ⟨Sg.le_refl _, hos, htp, hout, hsz, fun _ hi => .inl hi, fun _ hi => .inl hi, fun r hr _ => hfr r hr, fun _ _ h => .inl h⟩, flat_self v h2, Nat.le_refl _⟩
 have hhvg : CallRes E.P g args' σ h nx w ((cHv (E.hv g) (cOv (E.ov g) (cFn1 E g (E.P.funcs[g]?)))).f r args h nx) := by
  cases hhv : E.hv g with
  | nil => exact hov
  | cons x l =>
   show CallRes E.P g args' σ h nx w (hvAll (x :: l) args h nx ((cOv (E.ov g) (cFn1 E g (E.P.funcs[g]?))).f r args h nx))
   exact hvAll_good R hv hov (x :: l) (by rw [← hhv]; exact hH g)
 unfold cFn
 rw [fnAt_eq]
 have hsrg : CallRes E.P g args' σ h nx w ((cSr (E.sr g) (cHv (E.hv g) (cOv (E.ov g) (cFn1 E g (E.P.funcs[g]?))))).f r args h nx) := by
  cases hsr : E.sr g with
  | none => exact hhvg
  | some q => exact hS g q hsr args args' h nx σ w _ R hpos hv hhvg
 cases hfz : E.fz g with
 | none => exact hsrg
 | some c =>
  show CallRes E.P g args' σ h nx w (fzSee c.F (viewL h c.vw args) _ r args h nx)
  unfold fzSee
  cases hvw : viewL h c.vw args with
  | none => exact hsrg
  | some us =>
   simp only
   cases hid : noIdL us with
   | false => exact hsrg
   | true =>
    show CallRes E.P g args' σ h nx w (fzAns (c.F us) _ r args h nx)
    cases hFu : c.F us with
    | none => exact hsrg
    | some u =>
     show CallRes E.P g args' σ h nx w (fzKeep (flat u || noIdL args) u h nx)
     cases hk : (flat u || noIdL args) with
     | false => trivial
     | true =>
      have ok := hF g c hfz us u hFu
      rw [Bool.or_eq_true] at hk
      rcases hk with hfl | hna
      ·obtain ⟨h1, h2⟩ := ok (fun r => w.heap[r]?) w args' (fun _ _ h => h) (viewL_good R (fun r o hr => (R.fz r o hr).1) hv hvw hid (.inr fun r o _ h => h))
       refine .inr ⟨h1, CallsIn.mono h2 fun e w1 hw => ?_⟩
       obtain ⟨v', R', he, hfr, _, _, hos, htp, hout, hsz, hh⟩ := hw
       have hvu := hfr.flat_eq hfl
       subst hvu
       exact ⟨v', σ, he, R.grown hsz hh, ⟨Sg.le_refl _, hos, htp, hout, hsz, fun _ hi => .inl hi, fun _ hi => .inl hi, fun r hr _ => hh r hr, fun _ _ h => .inl h⟩, flat_self v' hfl, Nat.le_refl _⟩
      ·obtain ⟨h1, h2⟩ := ok σ.R w args' (fun r o hr => (R.fz r o hr).1) (viewL_good R (fun _ _ h => h) hv hvw hid (.inl hna))
       refine .inr ⟨h1, CallsIn.mono h2 fun e w1 hw => ?_⟩
       obtain ⟨v', R', he, hfr, hle, hnew, hos, htp, hout, hsz, hh⟩ := hw
       refine ⟨v', ⟨σ.f, σ.res, R'⟩, he, (R.grown hsz hh).refz hle fun r o hr => ⟨(hnew r o hr).1, fun hi => ?_⟩,
        ⟨⟨⟨fun _ _ h => h, hle⟩, rfl⟩, hos, htp, hout, hsz, fun _ hi => .inl hi, fun _ hi => .inl hi, fun r hr _ => hh r hr, fun r o hr => (hnew r o hr).2⟩, hfr.vr (fun _ _ h => h), Nat.le_refl _⟩
       obtain ⟨b, ob, i, hb, hj, hr', hnt⟩ := hi
       have hi' : It σ h r := ⟨b, ob, i, hb, hj, hr', hnt⟩
       rcases (hnew r o hr).2 with h3 | h3
       ·exact (R.fz r o h3).2 hi'
       ·have := (R.at_ hb hj).1
        omega
end
end Go.Proofs.YtpnaenbpffhjfaaGreatDoor.Ev

namespace Go.Proofs.YtpnaenbpffhjfaaGreatDoor.Ev
section
variable {E : Env}
theorem assign_good {σ : Sg} {nt : Nat} : ∀ (ps : List Tmp) (args args' : List Value) (tm tm' : Tr Value) (tmps : Array Value), VRL σ args args' → TR σ nt tm tmps → assignL nt ps args tm = some tm' →
  TR σ nt tm' ((ps.zip args').foldl (fun tmps p => tmps.setIfInBounds p.1 p.2) tmps)
 | [], _, _, tm, tm', tmps, _, T, e => by cases e; exact T
 | t :: ps, [], _, tm, tm', tmps, hv, T, e => by cases hv; cases e; exact T
 | t :: ps, v :: vs, _, tm, tm', tmps, .cons _ v' _ vs' hv hl, T, e => by
  change (match Nat.blt t nt with | true => assignL nt ps vs (tm.set t v) | false => none) = some tm' at e
  cases hb : Nat.blt t nt with
  | false => rw [hb] at e; cases e
  | true =>
   rw [hb] at e
   exact assign_good ps vs vs' (tm.set t v) tm' _ hl (T.put (blt_true.1 hb) hv) e
theorem run_beginRound {P : Program} {w : World} {l : Nat} {L : Loop} (hw : w.heap[l]? = some (.loop L)) (hb : isReady L.state = true) :
  (Instr.beginRound l).run P w = .ok () { w with heap := w.heap.setIfInBounds l (.loop { L with state := .busy }) } := by
 unfold Instr.beginRound
 rw [run_b (run_getLoop hw), run_b (run_setObj hw (by intros; simp))]
 cases hs : L.state <;> simp [isReady, hs] at hb
 rfl
theorem run_endRound {P : Program} {w : World} {l : Nat} {L : Loop} (hw : w.heap[l]? = some (.loop L)) (j : Option Code) :
  (Instr.endRound l j).run P w = .ok (.bool j.isNone) { w with heap := w.heap.setIfInBounds l (.loop { L with state := if j.isNone then .ready else .done, pending := j }) } := by
 unfold Instr.endRound
 rw [run_b (run_getLoop hw), run_b (run_setObj hw (by intros; simp))]
 rfl
theorem loop_turn {σ : Sg} {h : Hp} {nx : Nat} {w : World} (R : Rel σ h nx w) {l : Nat} {i : BI} (hi : σ l = some i) {st : LoopState} {p : Option Code} {fn : FuncId} {tm : Tr Value} {n : Nat} {ps : Array Tmp} {a b : Code} {d : Nat}
  (hg : h.get l = some (.loop st p fn tm n ps a b d)) : ∃ L : Loop, w.heap[i.r]? = some (.loop L) ∧ L.state = st ∧ L.pending = p ∧ L.params = ps ∧ L.assign = a ∧ L.body = b ∧ TR σ n tm L.tmps ∧
   ∀ (st' : LoopState) (p' : Option Code), Rel σ (h.set l (.loop st' p' fn tm n ps a b d)) nx { w with heap := w.heap.setIfInBounds i.r (.loop { L with state := st', pending := p' }) } ∧
    Fwd σ h w σ (h.set l (.loop st' p' fn tm n ps a b d)) { w with heap := w.heap.setIfInBounds i.r (.loop { L with state := st', pending := p' }) } := by
 obtain ⟨hr, hor⟩ := R.at_ hg hi
 obtain ⟨fn', id, tmps', hw, hd, hT⟩ := hor trivial
 refine ⟨_, hw, rfl, rfl, rfl, rfl, rfl, hT, fun st' p' => ?_⟩
 exact R.obj_turn (o' := .loop st' p' fn tm n ps a b d) hg hi rfl rfl rfl (fun x => x) trivial ⟨fn', id, tmps', set_at hw, hd, hT⟩
theorem round_good (hd : DrawGood E.P) {r : Rec} (G : RecGood E.P r) (l : Nat) (args : List Value) (h : Hp) (nx : Nat) (σ : Sg) (w : World) (args' : List Value) (i : BI)
  (R : Rel σ h nx w) (hpos : 1 ≤ nx) (hv : VRL σ args args') (hi : σ l = some i) : RoundRes E.P i.r args' σ h nx w (stepRound E r l args h nx) := by
 unfold stepRound
 cases hg : h.get l with
 | none => trivial
 | some ob =>
  cases ob with
  | loop st p fn tm nt ps asg bd d =>
   show RoundRes E.P i.r args' σ h nx w (match Nat.beq args.length ps.toList.length with | true => roundTm (assignL nt ps.toList args tm) E.P nt asg bd l fn r h nx | false => H.no "yield: arguments" "")
   cases hbl : Nat.beq args.length ps.toList.length with
   | false => trivial
   | true =>
    simp only
    cases hta : assignL nt ps.toList args tm with
    | none => trivial
    | some tm1 =>
     obtain ⟨L, hw, _, _, hps, has, hbd, hT, _⟩ := loop_turn R hi hg
     let S : Sx := { ro := some l, fn, nt }
     let tmps1 := (ps.zip ⟨args'⟩).foldl (fun tmps p => tmps.setIfInBounds p.1 p.2) L.tmps
     have hT1 : TR σ nt tm1 tmps1 := by
      have := assign_good ps.toList args args' tm tm1 L.tmps hv hT hta
      have e : tmps1 = (ps.toList.zip args').foldl (fun tmps p => tmps.setIfInBounds p.1 p.2) L.tmps := by
       show (ps.zip ⟨args'⟩).foldl _ _ = _
       rw [← Array.foldl_toList, Array.toList_zip]
      rw [e]; exact this
     have hlen : (⟨args'⟩ : Array Value).size = L.params.size := by
      rw [hps]
      show args'.length = _
      rw [← hv.length, beq_true.1 hbl, Array.length_toList]
     have hyield : (Instr.yield i.r ⟨args'⟩).run E.P w = .ok (.round i.r L.fn tmps1 asg bd) w := by
      unfold Instr.yield
      rw [run_b (run_getLoop hw)]
      refine (run_ite_f (fun hne => hne hlen)).trans ?_
      subst hps has hbd
      rfl
     have s0 : St σ h nx w S nt tm1 [] { tmps := tmps1, defers := [] } (some i.r) := ⟨R, hpos, rfl, hT1, trivial, ⟨i, hi, rfl⟩⟩
     have hA := body_good hd asg r G S (some i.r) tm1 [] h nx σ w _ s0
     show RoundRes E.P i.r args' σ h nx w (roundGo ((cBody E.P nt asg).f r S tm1 [] h nx) l r (cBody E.P nt bd) S)
     cases hres : (cBody E.P nt asg).f r S tm1 [] h nx with
     | no _ _ => trivial
     | ok e tm2 df2 h2 nx2 =>
      rw [hres] at hA
      cases e with
      | normal =>
       show RoundRes E.P i.r args' σ h nx w (roundGo1 (h2.get l) l r (cBody E.P nt bd) S tm2 df2 h2 nx2)
       cases hg2 : h2.get l with
       | none => trivial
       | some ob2 =>
        cases ob2 with
        | loop st2 p2 fn2 tm3 nt2 ps2 as2 bd2 d2 =>
         show RoundRes E.P i.r args' σ h nx w (match isReady st2 with | true => roundEnd l ((cBody E.P nt bd).f r S tm2 df2 (h2.set l (.loop .busy p2 fn2 tm3 nt2 ps2 as2 bd2 d2)) nx2) | false => H.no "beginRound" "")
         cases hrd : isReady st2 with
         | false => trivial
         | true =>
          simp only
          cases hres3 : (cBody E.P nt bd).f r S tm2 df2 (h2.set l (.loop .busy p2 fn2 tm3 nt2 ps2 as2 bd2 d2)) nx2 with
          | no _ _ => trivial
          | ok e3 tm4 df3 h3 nx3 =>
           cases df3 with
           | cons _ _ => trivial
           | nil =>
            show RoundRes E.P i.r args' σ h nx w (roundEx e3 l h3 nx3)
            have fin : ∀ (j : Option Code) (v : Value) (h' : Hp) (nx' : Nat), (∀ a4 w4, (∃ v w', (Instr.endRound i.r j).run E.P w4 = .ok v w' ∧ Post σ h nx w (.bool j.isNone) h' nx' (.returned v) w') → roundPost E.P i.r (Post σ h nx w (.bool j.isNone) h' nx') (exitOf e3) a4 w4) →
              (match j with | none => roundDone l .ready none true (h3.get l) h3 nx3 | some c => roundDone l .done (some c) false (h3.get l) h3 nx3) = .ok (.bool j.isNone) h' nx' → RoundRes E.P i.r args' σ h nx w (.ok (.bool j.isNone) h' nx') := by
             intro j v h' nx' hpost hdone
             refine ⟨L.fn, tmps1, asg, bd, hyield, roundIn_of_wpIn (F := Fence.wide) (n := 0) trivial ?_⟩
             refine hA _ fun σ2 a2 w2 s2 f2 hn2 => ?_
             have hi2 := f2.sub _ _ hi
             obtain ⟨L2, hw2, hs2, hp2, _, _, _, _, hturn⟩ := loop_turn s2.R hi2 hg2
             have hbr := run_beginRound (P := E.P) hw2 (by rw [hs2]; exact hrd)
             obtain ⟨R3, F3⟩ := hturn .busy p2
             rw [show ({ L2 with state := .busy, pending := p2 } : Loop) = { L2 with state := .busy } by rw [← hp2]] at R3 F3
             refine ⟨_, hbr, ?_⟩
             have hB := body_good hd bd r G S (some i.r) tm2 df2 (h2.set l (.loop .busy p2 fn2 tm3 nt2 ps2 as2 bd2 d2)) nx2 σ2 _ a2 ⟨R3, s2.pos, rfl, s2.T, s2.D, ⟨i, hi2, rfl⟩⟩
             rw [hres3] at hB
             refine hB _ fun σ4 a4 w4 s4 f4 hn4 => hpost a4 w4 ?_
             have hi4 := f4.sub _ _ hi2
             cases hg4 : h3.get l with
             | none => rw [hg4] at hdone; cases j <;> cases hdone
             | some ob4 =>
              rw [hg4] at hdone
              cases ob4 with
              | loop st4 p4 fn4 tm5 nt4 ps4 as4 bd4 d4 =>
               obtain ⟨L4, hw4, _, _, _, _, _, _, hturn4⟩ := loop_turn s4.R hi4 hg4
               refine ⟨_, _, run_endRound hw4 j, ?_⟩
               obtain ⟨R5, F5⟩ := hturn4 (if j.isNone then .ready else .done) j
               have hh : h' = h3.set l (.loop (if j.isNone then .ready else .done) j fn4 tm5 nt4 ps4 as4 bd4 d4) ∧ nx' = nx3 := by
                cases j with
                | none => cases hdone; exact ⟨rfl, rfl⟩
                | some c => cases hdone; exact ⟨rfl, rfl⟩
               obtain ⟨h1, h2'⟩ := hh
               subst h1 h2'
               exact ⟨_, σ4, rfl, R5, f2.trans (F3.trans (f4.trans F5)), VR.b _, by omega⟩
              | _ => cases j <;> cases hdone
            cases e3 with
            | normal =>
             show RoundRes E.P i.r args' σ h nx w (roundDone l .ready none true (h3.get l) h3 nx3)
             cases hdn : roundDone l .ready none true (h3.get l) h3 nx3 with
             | no _ _ => trivial
             | ok v h' nx' =>
              have hve : v = .bool true := by unfold roundDone at hdn; split at hdn <;> cases hdn; rfl
              subst hve
              exact fin none (.bool true) h' nx' (fun a4 w4 hq => hq) hdn
            | ret =>
             show RoundRes E.P i.r args' σ h nx w (roundDone l .done (some .ret) false (h3.get l) h3 nx3)
             cases hdn : roundDone l .done (some .ret) false (h3.get l) h3 nx3 with
             | no _ _ => trivial
             | ok v h' nx' =>
              have hve : v = .bool false := by unfold roundDone at hdn; split at hdn <;> cases hdn; rfl
              subst hve
              exact fin (some .ret) (.bool false) h' nx' (fun a4 w4 hq => hq) hdn
            | exit id =>
             show RoundRes E.P i.r args' σ h nx w (roundDone l .done (some (.exit id)) false (h3.get l) h3 nx3)
             cases hdn : roundDone l .done (some (.exit id)) false (h3.get l) h3 nx3 with
             | no _ _ => trivial
             | ok v h' nx' =>
              have hve : v = .bool false := by unfold roundDone at hdn; split at hdn <;> cases hdn; rfl
              subst hve
              exact fin (some (.exit id)) (.bool false) h' nx' (fun a4 w4 hq => hq) hdn
            | goto t =>
             show RoundRes E.P i.r args' σ h nx w (roundDone l .done (some (.goto t)) false (h3.get l) h3 nx3)
             cases hdn : roundDone l .done (some (.goto t)) false (h3.get l) h3 nx3 with
             | no _ _ => trivial
             | ok v h' nx' =>
              have hve : v = .bool false := by unfold roundDone at hdn; split at hdn <;> cases hdn; rfl
              subst hve
              exact fin (some (.goto t)) (.bool false) h' nx' (fun a4 w4 hq => hq) hdn
        | _ => trivial
      | _ => trivial
  | _ => trivial
theorem noRec_good (P : Program) : RecGood P noRec := ⟨fun _ _ _ _ _ _ _ _ _ _ => trivial, fun _ _ _ _ _ _ _ _ _ _ => trivial, fun _ _ _ _ _ _ _ _ _ _ _ _ => trivial⟩
theorem ev_good (hd : DrawGood E.P) (hN : NameGood E.P) (hE : ExtGood E) (hO : OvGood E) (hH : HvGood E) (hS : SrGood E) (hF : FzGood E) (fuel : Nat) : ∀ depth, RecGood E.P (ev E fuel depth) := by
 intro depth
 induction depth with
 | zero => exact noRec_good _
 | succ n ih =>
  have G : RecGood E.P (ev E fuel n) := ih
  exact ⟨fun g args h nx σ w args' R hpos hv => callD_good hd hN G g args args' h nx σ w R hpos hv,
   fun g args h nx σ w args' R hpos hv => call_good hd hN hE hO hH hS hF G g args args' h nx σ w R hpos hv,
   fun l args h nx σ w args' i R hpos hv hi => round_good hd G l args h nx σ w args' i R hpos hv hi⟩
end
end Go.Proofs.YtpnaenbpffhjfaaGreatDoor.Ev

namespace Go.Proofs.YtpnaenbpffhjfaaGreatDoor.Ev
theorem start_some {w : World} {b : Nat} {i : BI} (h : Sg.start w b = some i) : 1 ≤ b ∧ b ≤ 60 ∧ i = { r := b - 1, shift := 0, fin := cellsAt0 w (b - 1), esz := 1 } := by
 change (if 1 ≤ b ∧ b ≤ 60 then some ({ r := b - 1, shift := 0, fin := cellsAt0 w (b - 1), esz := 1 } : BI) else none) = some i at h
 split at h
 ·rename_i hb; cases h; exact ⟨hb.1, hb.2, rfl⟩
 ·cases h
theorem start_gl (w : World) : GL (Sg.start w) := fun g hg => ⟨{ r := g, shift := 0, fin := cellsAt0 w g, esz := 1 }, by
 show (if 1 ≤ g + 1 ∧ g + 1 ≤ 60 then some ({ r := g + 1 - 1, shift := 0, fin := cellsAt0 w (g + 1 - 1), esz := 1 } : BI) else none) = _
 rw [if_pos ⟨by omega, by omega⟩]
 simp, rfl, rfl⟩
theorem start_none {w : World} {b : Nat} (h : 61 ≤ b) : Sg.start w b = none := by
 show (if 1 ≤ b ∧ b ≤ 60 then some ({ r := b - 1, shift := 0, fin := cellsAt0 w (b - 1), esz := 1 } : BI) else none) = none
 rw [if_neg (by omega)]
theorem rel_start {nx : Nat} (hnx : 61 ≤ nx) (w : World) : Rel (Sg.start w) .leaf nx w :=
 have no : ∀ (b : Nat) (o : AO), (Tr.leaf : Hp).get b ≠ some o := fun b o h => by rw [leaf_get] at h; cases h
 ⟨⟨fun b o h => (no b o h).elim, fun b hb => ⟨start_none (Nat.le_trans hnx hb), leaf_get b⟩, fun b la al h => (no _ _ h).elim,
  fun b1 b2 o1 o2 i1 i2 h => (no _ _ h).elim, fun b o L oL i iL al h => (no _ _ h).elim, fun b o L al h => (no _ _ h).elim, fun _ h => h.elim, start_gl w⟩, fun _ _ h => by cases h⟩
theorem rel_startR {nx : Nat} (hnx : 61 ≤ nx) (w : World) {R : Nat → Option Obj} (hR : ∀ r o, R r = some o → w.heap[r]? = some o) : Rel ⟨(Sg.start w).f, (Sg.start w).res, R⟩ .leaf nx w :=
 (rel_start hnx w).refz (fun _ _ h => by cases h) fun r o hr => ⟨hR r o hr, fun ⟨b, o, _, hb, _⟩ => by rw [leaf_get] at hb; cases hb⟩
noncomputable def tabsH (l : List (Nat × List Value)) : Hp := hpOf (l.map fun p => (p.1 + 1, .tab p.2))
def TabsIn (w : World) (l : List (Nat × List Value)) : Prop := ∀ p ∈ l, p.1 < 60 ∧ flatL p.2 = true ∧ ∃ (cs : Array Value) (el : TypeId) (fr : Nat × Nat), w.heap[p.1]? = some (.cells cs el fr) ∧ p.2.length ≤ cs.size ∧
 True ∧ ∀ (k : Nat) (v : Value), p.2[k]? = some v → cs[k]? = some v
theorem tabsH_get {l : List (Nat × List Value)} {b : Nat} {o : AO} (h : (tabsH l).get b = some o) : ∃ p ∈ l, b = p.1 + 1 ∧ o = .tab (Tr.ofL p.2) p.2.length := by
 obtain ⟨lo, h1, h2⟩ := hpOf_get h
 obtain ⟨p, hp, e⟩ := List.mem_map.1 h1
 cases e
 exact ⟨p, hp, rfl, h2⟩
theorem rel_tabs {nx : Nat} (hnx : 61 ≤ nx) {w : World} {l : List (Nat × List Value)} (hT : TabsIn w l) : Rel (Sg.start w) (tabsH l) nx w := by
 refine ⟨⟨fun b o h => ?_, fun b hb => ⟨start_none (Nat.le_trans hnx hb), ?_⟩, fun b la al h => ?_, fun b1 b2 o1 o2 i1 i2 h1 h2 _ _ s1 s2 hne hr => ?_, fun b o L oL i iL al h _ hf => ?_, fun b o L al h hf => ?_, fun _ h => h.elim, start_gl w⟩, fun _ _ h => by cases h⟩
 ·obtain ⟨p, hp, rfl, rfl⟩ := tabsH_get h
  obtain ⟨h60, hfl, cs, el, fr, h1, h2, h3, h4⟩ := hT p hp
  obtain ⟨i, hi, hir, his⟩ := start_gl w p.1 h60
  refine .inr ⟨i, hi, ?_, fun _ => ⟨cs, el, fr, by rw [hir]; exact h1, by rw [his, Nat.zero_add]; exact h2, trivial, fun k v hk hv => ?_⟩⟩
  ·rw [hir]; exact (Array.getElem?_eq_some_iff.1 h1).1
  ·rw [Tr.get_ofL] at hv
   obtain ⟨v', g1, g2⟩ := (flatL_self (σ := Sg.start w) p.2 hfl).get k v hv
   rw [hv] at g1; cases g1
   exact ⟨v, by rw [his, Nat.zero_add]; exact h4 k v hv, g2⟩
 ·cases hg : (tabsH l).get b with
  | none => rfl
  | some o => obtain ⟨p, hp, e, _⟩ := tabsH_get hg; have := (hT p hp).1; omega
 ·obtain ⟨p, _, _, e⟩ := tabsH_get h; cases e
 ·have e1 := start_some s1
  have e2 := start_some s2
  rw [e1.2.2, e2.2.2] at hr
  simp only at hr
  omega
 ·obtain ⟨p, _, _, e⟩ := tabsH_get h; subst e; exact (hf rfl).elim
 ·obtain ⟨p, _, _, e⟩ := tabsH_get h; subst e; exact (hf rfl).elim
def HFlat (v : Value) : H → Prop
 | .ok u _ _ => u = v
 | .no _ _ => False
theorem closed_from {E : Env} (hd : DrawGood E.P) (hN : NameGood E.P) (hE : ExtGood E) (hO : OvGood E) (hH : HvGood E) (hS : SrGood E) (hF : FzGood E) {fuel depth : Nat} {g : FuncId} {args args' : List Value} {v : Value} {nx : Nat} (hpos : 61 ≤ nx)
  (hb : bodyO (E.P.funcs[g]?) = true) {w : World} {σ : Sg} {h : Hp} (R0 : Rel σ h nx w) (ht : ∀ b o, h.get b = some o → isTab o) (ha : VRL σ args args') (hv : flat v = true) (e : HFlat v ((ev E fuel depth).call g args h nx)) :
  (callFunc g ⟨args'⟩).run E.P w = .ok (.enter g ⟨args'⟩) w ∧ CallsIn Fence.wide 0 E.P g ⟨args'⟩ w fun e w1 => e = .returned v ∧ RowKit.Below w.heap.size w w1 := by
 have hG := (ev_good hd hN hE hO hH hS hF fuel depth).call g args h nx σ w args' R0 (by omega) ha
 cases hres : (ev E fuel depth).call g args h nx with
 | no _ _ => rw [hres] at e; exact e.elim
 | ok u h' nx' =>
  rw [hres] at e hG
  change u = v at e
  subst e
  rcases hG with ⟨v', w1, σ', hr, _⟩ | ⟨h1, h2⟩
  ·exact (body_enter hb hr).elim
  ·refine ⟨h1, CallsIn.mono h2 fun e w1 hp => ?_⟩
   obtain ⟨v', σ', he, R, F, hvr, _⟩ := hp
   refine ⟨by rw [he, flat_eq hvr hv], F.os, F.tape, F.output, F.size, fun k hk => F.frame k hk ?_⟩
   rintro ⟨b, o, i, hb, _, _, hnt⟩
   exact hnt (ht b o hb)
theorem closed_at {E : Env} (hd : DrawGood E.P) (hN : NameGood E.P) (hE : ExtGood E) (hO : OvGood E) (hH : HvGood E) (hS : SrGood E) (hF : FzGood E) {fuel depth : Nat} {g : FuncId} {args args' : List Value} {v : Value} {nx : Nat} (hpos : 61 ≤ nx)
  (hb : bodyO (E.P.funcs[g]?) = true) (w : World) (ha : VRL (Sg.start w) args args') (hv : flat v = true) {l : List (Nat × List Value)} (hT : TabsIn w l) (e : HFlat v ((ev E fuel depth).call g args (tabsH l) nx)) :
  (callFunc g ⟨args'⟩).run E.P w = .ok (.enter g ⟨args'⟩) w ∧ CallsIn Fence.wide 0 E.P g ⟨args'⟩ w fun e w1 => e = .returned v ∧ RowKit.Below w.heap.size w w1 :=
 closed_from hd hN hE hO hH hS hF hpos hb (rel_tabs hpos hT) (fun b o hb => by obtain ⟨p, _, _, e⟩ := tabsH_get hb; subst e; trivial) ha hv e
theorem tabsIn_of {P : Program} {w : World} {name : String} {k : IntKind} {zs : List Int} {g : Nat} (hg : P.globalNamed name = some g) (h60 : g < 60) (hf : flatL (zs.map fun z => Value.int k z) = true) (h : Lib.TabIs P w name k zs) : TabsIn w [(g, zs.map fun z => Value.int k z)] := by
 intro p hp
 obtain rfl := List.mem_singleton.1 hp
 refine ⟨h60, hf, ?_⟩
 unfold Lib.TabIs World.var? at h
 rw [hg] at h
 change (match w.heap[g]? with | some (.cells cs _ _) => some cs | _ => none) = some _ at h
 split at h
 ·rename_i cs el fr hc
  cases h
  exact ⟨_, el, fr, hc, by simp, trivial, fun k v hv => by simpa using hv⟩
 ·cases h
theorem tabs_nil (w : World) : TabsIn w [] := fun _ h => by cases h
theorem closed_in {E : Env} (hd : DrawGood E.P) (hN : NameGood E.P) (hE : ExtGood E) (hO : OvGood E) (hH : HvGood E) (hS : SrGood E) (hF : FzGood E) {fuel depth : Nat} {g : FuncId} {args : List Value} {v : Value} {nx : Nat} (hpos : 61 ≤ nx)
  (hb : bodyO (E.P.funcs[g]?) = true) (ha : flatL args = true) (hv : flat v = true) (e : HFlat v ((ev E fuel depth).call g args .leaf nx)) (w : World) :
  (callFunc g ⟨args⟩).run E.P w = .ok (.enter g ⟨args⟩) w ∧ CallsIn Fence.wide 0 E.P g ⟨args⟩ w fun e w1 => e = .returned v ∧ RowKit.Below w.heap.size w w1 :=
 closed_at hd hN hE hO hH hS hF hpos hb w (flatL_self args ha) hv (tabs_nil w) e
theorem fn_ok {E : Env} (hd : DrawGood E.P) (hN : NameGood E.P) (hE : ExtGood E) (hO : OvGood E) (hH : HvGood E) (hS : SrGood E) (hF : FzGood E) {fuel depth : Nat} {g : FuncId} {args : List Value} {v u : Value} {h' : Hp} {nx nx' : Nat} {vw : Vw} (hpos : 61 ≤ nx)
  (hb : bodyO (E.P.funcs[g]?) = true) (e : (ev E fuel depth).call g args .leaf nx = .ok v h' nx') (hv : viewV h' vw v = some u) (hu : noId u = true) : FnOk E.P g args u := by
 intro R w args' hR ha
 have R0 := rel_startR hpos w hR
 have hG := (ev_good hd hN hE hO hH hS hF fuel depth).call g args .leaf nx _ w args' R0 (by omega) (ha.vr fun _ _ h => h)
 rw [e] at hG
 rcases hG with ⟨v', w1, σ', hr, _⟩ | ⟨h1, h2⟩
 ·exact (body_enter hb hr).elim
 refine ⟨h1, CallsIn.mono h2 fun e w1 hp => ?_⟩
 obtain ⟨v', σ', he, R1, F, hvr, _⟩ := hp
 let R' : Nat → Option Obj := fun r => if (σ'.R r).isSome = true ∨ w.heap.size ≤ r then w1.heap[r]? else none
 have hle : RLe σ'.R R' := fun r o hr => by
  show (if (σ'.R r).isSome = true ∨ w.heap.size ≤ r then w1.heap[r]? else none) = some o
  rw [if_pos (.inl (by rw [hr]; rfl))]
  exact (R1.fz r o hr).1
 have hnoL : ∀ r, ¬ Im ⟨(Sg.start w).f, (Sg.start w).res, R⟩ .leaf r := fun r ⟨b, o, _, hb, _⟩ => by rw [leaf_get] at hb; cases hb
 refine ⟨v', R', he, viewV_good R1 hle hvr hv hu (.inr fun r o hi hw => ?_), fun r o hr => hle r o (F.sub.fn.R r o hr), fun r o hr => ?_, F.os, F.tape, F.output, F.size, fun k hk => F.frame k hk fun hi => hnoL _ hi.im⟩
 ·show (if (σ'.R r).isSome = true ∨ w.heap.size ≤ r then w1.heap[r]? else none) = some o
  rcases F.image r hi with h3 | h3
  ·exact (hnoL _ h3).elim
  ·rw [if_pos (.inr h3)]; exact hw
 ·change (if (σ'.R r).isSome = true ∨ w.heap.size ≤ r then w1.heap[r]? else none) = some o at hr
  split at hr
  ·rename_i hc
   refine ⟨hr, ?_⟩
   rcases hc with hc | hc
   ·obtain ⟨o', ho'⟩ := Option.isSome_iff_exists.1 hc
    have := (R1.fz r o' ho').1
    rw [hr] at this
    cases this
    exact F.fr r o ho'
   ·exact .inr hc
  ·cases hr
theorem fz_none {E : Env} (h : ∀ g, E.fz g = none) : FzGood E := fun g c hg => by rw [h g] at hg; cases hg
theorem ov_none {E : Env} (h : ∀ g, E.ov g = none) : OvGood E := fun g f hg => by rw [h g] at hg; cases hg
end Go.Proofs.YtpnaenbpffhjfaaGreatDoor.Ev

namespace Go.Proofs.YtpnaenbpffhjfaaGreatDoor.Ev
def Same (l : List Operand) (tm tm' : Tr Value) : Prop := ∀ x ∈ l, opv x tm = opv x tm'
theorem ops_same {l : List Operand} {tm tm' : Tr Value} (h : Same l tm tm') : ops l tm = ops l tm' := by
 induction l with
 | nil => rfl
 | cons x l ih => rw [ops_cons, ops_cons, h x (by simp), ih fun y hy => h y (by simp [hy])]
theorem fill_same (place : Nat → Option (Nat × Nat)) {tm tm' : Tr Value} : ∀ (l : List (Nat × Operand)) (cells : List Value), Same (l.map (·.2)) tm tm' → fillL place tm l cells = fillL place tm' l cells
 | [], _, _ => rfl
 | p :: l, cells, h => by
  show (match fillAt (place p.1) (opv p.2 tm) cells with | some c => fillL place tm l c | none => none) = (match fillAt (place p.1) (opv p.2 tm') cells with | some c => fillL place tm' l c | none => none)
  rw [h p.2 (by simp)]
  cases fillAt (place p.1) (opv p.2 tm') cells with
  | none => rfl
  | some c => exact fill_same place l c fun x hx => h x (List.mem_cons_of_mem _ hx)
theorem bound_same {x : Option Operand} {tm tm' : Tr Value} (h : ∀ y, x = some y → opv y tm = opv y tm') (a b : Nat) : boundO x tm a b = boundO x tm' a b := by
 cases x with
 | none => rfl
 | some y => show boundV (opv y tm) a = boundV (opv y tm') a; rw [h y rfl]
theorem light_same (P : Program) (o : Op) {tm tm' : Tr Value} (hs : Same o.operands.toList tm tm') (h : Hp) (id : Nat) : (cLight P o).f tm h id = (cLight P o).f tm' h id := by
 cases o with
 | move x => show L.val (opv x tm) = L.val (opv x tm'); rw [hs x (by simp [Op.operands])]
 | assign x => show L.val (opv x tm) = L.val (opv x tm'); rw [hs x (by simp [Op.operands])]
 | pick c a b => show evPick (opv c tm) (opv a tm) (opv b tm) = evPick (opv c tm') (opv a tm') (opv b tm'); rw [hs c (by simp [Op.operands]), hs a (by simp [Op.operands]), hs b (by simp [Op.operands])]
 | box e x =>
  have hx := hs x (by simp [Op.operands])
  show (match knownV (opv x tm) with | true => newBlk id e (cellsL (opv x tm)) | false => L.no) = (match knownV (opv x tm') with | true => newBlk id e (cellsL (opv x tm')) | false => L.no)
  rw [hx]
 | nilCheck x => show evNilCheck (opv x tm) = evNilCheck (opv x tm'); rw [hs x (by simp [Op.operands])]
 | binOp op t x y z => show evBin (opv x tm) (opv y tm) _ = evBin (opv x tm') (opv y tm') _; rw [hs x (by simp [Op.operands]), hs y (by simp [Op.operands])]
 | unOp op t x => show evUn op P (opv x tm) = evUn op P (opv x tm'); rw [hs x (by simp [Op.operands])]
 | convert s d x => show evConvert _ (opv x tm) h id = evConvert _ (opv x tm') h id; rw [hs x (by simp [Op.operands])]
 | range t x => show evRange P t (opv x tm) h id = evRange P t (opv x tm') h id; rw [hs x (by simp [Op.operands])]
 | entry x => show evEntry (opv x tm) h = evEntry (opv x tm') h; rw [hs x (by simp [Op.operands])]
 | makeInterface t x =>
  have hx := hs x (by simp [Op.operands])
  show (cIface (plainT P t) t (cOpv x)).f tm h id = (cIface (plainT P t) t (cOpv x)).f tm' h id
  cases plainT P t with
  | false => rfl
  | true => show L.val (.iface t (opv x tm)) = L.val (.iface t (opv x tm')); rw [hx]
 | extract x i => show evExtract (opv x tm) i = evExtract (opv x tm') i; rw [hs x (by simp [Op.operands])]
 | makeSlice t x y => show evMakeSlice P t (opv x tm) (opv y tm) id = evMakeSlice P t (opv x tm') (opv y tm') id; rw [hs x (by simp [Op.operands]), hs y (by simp [Op.operands])]
 | build t ps =>
  show evBuild P t ps.toList tm = evBuild P t ps.toList tm'
  have hf : ∀ pl cells, fillL pl tm ps.toList cells = fillL pl tm' ps.toList cells := fun pl cells => fill_same pl _ cells (by simpa [Op.operands] using hs)
  unfold evBuild
  simp only [hf]
 | buildSlice t n ps =>
  show evBuildSlice P t n ps.toList tm id = evBuildSlice P t n ps.toList tm' id
  have hf : ∀ pl cells, fillL pl tm ps.toList cells = fillL pl tm' ps.toList cells := fun pl cells => fill_same pl _ cells (by simpa [Op.operands] using hs)
  unfold evBuildSlice
  simp only [hf]
 | load t x =>
  have hx := hs x (by simp [Op.operands])
  show (cLoad (shapeT P t) (cOpv x)).f tm h id = (cLoad (shapeT P t) (cOpv x)).f tm' h id
  cases shapeT P t with
  | none => rfl
  | some q =>
   obtain ⟨b, n⟩ := q
   cases b
   ·show (match ptrO (opv x tm) with | some a => one1 (loadP h a.block a.off 1) | none => one1 (otherP (opv x tm) h 1)) = (match ptrO (opv x tm') with | some a => one1 (loadP h a.block a.off 1) | none => one1 (otherP (opv x tm') h 1))
    rw [hx]
   ·show (match ptrO (opv x tm) with | some a => aggO (loadP h a.block a.off n) | none => aggO (otherP (opv x tm) h n)) = (match ptrO (opv x tm') with | some a => aggO (loadP h a.block a.off n) | none => aggO (otherP (opv x tm') h n))
    rw [hx]
 | alloc e =>
  show (cAlloc (zeroT P e) e).f tm h id = (cAlloc (zeroT P e) e).f tm' h id
  cases zeroT P e <;> rfl
 | makeFunc f x y =>
  have h1 : ops x.toList tm = ops x.toList tm' := ops_same fun z hz => hs z (by simp [Op.operands] at hz ⊢; exact .inl hz)
  have h2 : ops y.toList tm = ops y.toList tm' := ops_same fun z hz => hs z (by simp [Op.operands] at hz ⊢; exact .inr hz)
  show evMakeFunc f x.toList y.toList tm = evMakeFunc f x.toList y.toList tm'
  cases f <;> first | rfl | (show L.val _ = L.val _; rw [h1, h2])
 | makeMap t r =>
  show evMakeMap r P t tm id = evMakeMap r P t tm' id
  cases r with
  | none => rfl
  | some x =>
   have hx := hs x (by simp [Op.operands])
   unfold evMakeMap
   simp only [hx]
 | slice t x lo hi mx =>
  have hx := hs x (by simp [Op.operands])
  have h1 : ∀ a b, boundO lo tm a b = boundO lo tm' a b := fun a b => bound_same (fun y hy => hs y (by subst hy; simp [Op.operands])) a b
  have h2 : ∀ a b, boundO hi tm a b = boundO hi tm' a b := fun a b => bound_same (fun y hy => hs y (by subst hy; simp [Op.operands])) a b
  have h3 : ∀ a b, boundO mx tm a b = boundO mx tm' a b := fun a b => bound_same (fun y hy => hs y (by subst hy; simp [Op.operands])) a b
  show evSlice P t (opv x tm) lo hi mx tm h id = evSlice P t (opv x tm') lo hi mx tm' h id
  rw [hx]
  have key : ∀ v : Value, evSliceV v P t lo hi mx tm h id = evSliceV v P t lo hi mx tm' h id := by
   intro v
   have e2 : sliceNil lo hi mx tm = sliceNil lo hi mx tm' := by unfold sliceNil; simp only [h1, h2, h3]
   have e3 : ∀ a len c sz, sliceSl a len c sz lo hi mx tm h id = sliceSl a len c sz lo hi mx tm' h id := by intro a len c sz; unfold sliceSl; simp only [h1, h2, h3]
   have e4 : ∀ a n sz, sliceArr a n sz lo hi mx tm = sliceArr a n sz lo hi mx tm' := by intro a n sz; unfold sliceArr; simp only [h1, h2, h3]
   have e5 : ∀ sz m x, sliceFz sz m x lo hi tm = sliceFz sz m x lo hi tm' := by intro sz m x; unfold sliceFz cutFz; simp only [h1, h2]
   have e1 : ∀ s, sliceStr s lo hi tm = sliceStr s lo hi tm' := by intro s; unfold sliceStr; simp only [h1, h2]
   unfold evSliceV
   split <;> first | rfl | simp only [e1, e2, e3, e4, e5]
  unfold evSlice
  rw [key]
 | fieldAddr t x f =>
  have hx := hs x (by simp [Op.operands])
  show (cFieldAddr (fieldT P t f) (cOpv x)).f tm h id = (cFieldAddr (fieldT P t f) (cOpv x)).f tm' h id
  cases fieldT P t f with
  | none => rfl
  | some q =>
   obtain ⟨off, a, n⟩ := q
   show (match ptrO (opv x tm) with | some ad => fieldA ad (off, a, n) | none => fieldFp (fpO (opv x tm)) (off, a, n)) = (match ptrO (opv x tm') with | some ad => fieldA ad (off, a, n) | none => fieldFp (fpO (opv x tm')) (off, a, n))
   rw [hx]
 | field t x f =>
  have hx := hs x (by simp [Op.operands])
  show (cField (fieldT P t f) (cOpv x)).f tm h id = (cField (fieldT P t f) (cOpv x)).f tm' h id
  cases fieldT P t f with
  | none => rfl
  | some q => obtain ⟨off, a, n⟩ := q; show partF (opv x tm) _ = partF (opv x tm') _; rw [hx]
 | lookup t x y ok =>
  have hx := hs x (by simp [Op.operands])
  have hy := hs y (by simp [Op.operands])
  show (cLookup P (mapT P t) (cOpv x) (cOpv y) ok).f tm h id = (cLookup P (mapT P t) (cOpv x) (cOpv y) ok).f tm' h id
  cases mapT P t with
  | none => rfl
  | some q =>
   show (match entriesV (opv x tm) h with | some es => lookM P q es (opv y tm) ok | none => L.no) = (match entriesV (opv x tm') h with | some es => lookM P q es (opv y tm') ok | none => L.no)
   rw [hx, hy]
 | indexAddr t x y =>
  have hx := hs x (by simp [Op.operands])
  have hy := hs y (by simp [Op.operands])
  show (cIndexAddr (arrT P t) (sliceT P t) (cOpv x) (cOpv y)).f tm h id = (cIndexAddr (arrT P t) (sliceT P t) (cOpv x) (cOpv y)).f tm' h id
  cases arrT P t with
  | some q =>
   obtain ⟨n, a, sz⟩ := q
   show (match intO (opv y tm) with | some k => idxPtr (opv x tm) n sz k | none => L.no) = (match intO (opv y tm') with | some k => idxPtr (opv x tm') n sz k | none => L.no)
   rw [hx, hy]
  | none =>
   cases sliceT P t with
   | none => rfl
   | some q =>
    obtain ⟨n, a, sz⟩ := q
    show (match intO (opv y tm) with | some k => idxSl (opv x tm) sz k | none => L.no) = (match intO (opv y tm') with | some k => idxSl (opv x tm') sz k | none => L.no)
    rw [hx, hy]
 | index t x y =>
  have hx := hs x (by simp [Op.operands])
  have hy := hs y (by simp [Op.operands])
  show (cIndex (isStrT P t) (arrT P t) (cOpv x) (cOpv y)).f tm h id = (cIndex (isStrT P t) (arrT P t) (cOpv x) (cOpv y)).f tm' h id
  cases isStrT P t with
  | true =>
   show (match opv x tm with | .string s => (match intO (opv y tm) with | some n => idxStr s n | none => L.no) | _ => L.no) = (match opv x tm' with | .string s => (match intO (opv y tm') with | some n => idxStr s n | none => L.no) | _ => L.no)
   rw [hx, hy]
  | false =>
   cases arrT P t with
   | none => rfl
   | some q =>
    show (match intO (opv y tm) with | some n => evIndexArr (opv x tm) n q | none => L.no) = (match intO (opv y tm') with | some n => evIndexArr (opv x tm') n q | none => L.no)
    rw [hx, hy]
 | call c =>
  have ha : (cOps c.args.toList).f tm = (cOps c.args.toList).f tm' := ops_same fun z hz => hs z (by
   show z ∈ c.operands.toList
   unfold Call.operands
   cases c.callee <;> simp at hz ⊢ <;> first | exact hz | exact .inr hz | exact .inl hz)
  show (cLightC c.callee P c.argTypes.toList (cOps c.args.toList)).f tm h id = (cLightC c.callee P c.argTypes.toList (cOps c.args.toList)).f tm' h id
  cases c.callee with
  | builtin b =>
   cases b with
   | len =>
    show (cLen _ (cOps c.args.toList)).f tm h id = (cLen _ (cOps c.args.toList)).f tm' h id
    unfold cLen
    split <;> first | rfl | (simp only [ha])
   | cap =>
    show (cCap _ (cOps c.args.toList)).f tm h id = (cCap _ (cOps c.args.toList)).f tm' h id
    unfold cCap
    split <;> first | rfl | (simp only [ha])
   | min => show foldA min2 ((cOps c.args.toList).f tm) = foldA min2 ((cOps c.args.toList).f tm'); rw [ha]
   | max => show foldA max2 ((cOps c.args.toList).f tm) = foldA max2 ((cOps c.args.toList).f tm'); rw [ha]
   | unsafeSliceData => show sliceD ((cOps c.args.toList).f tm) = sliceD ((cOps c.args.toList).f tm'); rw [ha]
   | _ => rfl
  | _ => rfl
 | _ => rfl
end Go.Proofs.YtpnaenbpffhjfaaGreatDoor.Ev

namespace Go.Proofs.YtpnaenbpffhjfaaGreatDoor.Ev
section
variable {σ : Sg} {h : Hp} {nx : Nat} {w : World}
theorem Rel.lay (R : Rel σ h nx w) {id : Nat} {i : BI} {ao : AO} (hid : id < nx) (hs : σ id = some i) (hg : h.get id = none) (hf : famOf ao = 0) (hnf : ¬ isFam ao) (hir : i.r < w.heap.size)
  (ho : OR σ w i ao) (hni : ¬ Im σ h i.r) (hnR : σ.R i.r = none) : Rel σ (h.set id ao) nx w := by
 have hlive : ∀ b o, h.get b = some o → (live (h.set id ao) b o ↔ live h b o) := fun b o hb => live_congr (by
  rw [Tr.get_set]
  by_cases e : id = famOf o
  ·rw [if_pos e, famO_none hnf, ← e, hg]; rfl
  ·rw [if_neg e])
 refine ⟨⟨?_, ?_, ?_, ?_, ?_, ?_, ?_, R.gl⟩, ?_⟩
 ·intro b o hb
  rw [Tr.get_set] at hb
  by_cases e : id = b
  ·rw [if_pos e] at hb; cases hb; subst e
   exact .inr ⟨i, hs, hir, fun _ => ho⟩
  ·rw [if_neg e] at hb
   rcases R.obj b o hb with h1 | ⟨j, hj, h1, h2⟩
   ·exact .inl h1
   ·exact .inr ⟨j, hj, h1, fun hl => h2 ((hlive b o hb).1 hl)⟩
 ·intro b hb
  have e : id ≠ b := by omega
  exact ⟨(R.new b hb).1, by rw [Tr.get_set_ne _ _ e]; exact (R.new b hb).2⟩
 ·intro b la al hb
  obtain ⟨e, hb'⟩ := fam_ne hnf hb
  exact R.fams b la al hb'
 ·intro b1 b2 o1 o2 i1 i2 h1 h2 l1 l2 s1 s2 hne hr
  rw [Tr.get_set] at h1 h2
  by_cases e1 : id = b1
  ·have e2 : id ≠ b2 := fun e => hne (e1 ▸ e)
   rw [if_neg e2] at h2
   subst e1
   rw [hs] at s1; cases s1
   exact (hni ⟨b2, o2, i2, h2, s2, hr.symm⟩).elim
  ·rw [if_neg e1] at h1
   by_cases e2 : id = b2
   ·subst e2
    rw [hs] at s2; cases s2
    exact (hni ⟨b1, o1, i1, h1, s1, hr⟩).elim
   ·rw [if_neg e2] at h2
    exact R.sep b1 b2 o1 o2 i1 i2 h1 h2 ((hlive _ _ h1).1 l1) ((hlive _ _ h2).1 l2) s1 s2 hne hr
 ·intro b o L oL j jL al hb hl hfo hroot hL hlL hfL hs' hsL hr hne
  obtain ⟨er, hroot'⟩ := fam_ne hnf hroot
  rw [Tr.get_set] at hb hL
  by_cases e1 : id = b
  ·rw [if_pos e1] at hb; cases hb; exact (hfo hf).elim
  ·by_cases e2 : id = L
   ·rw [if_pos e2] at hL; cases hL; rw [hf] at hfL; exact (hfo hfL.symm).elim
   ·rw [if_neg e1] at hb
    rw [if_neg e2] at hL
    exact R.lat b o L oL j jL al hb ((hlive _ _ hb).1 hl) hfo hroot' hL ((hlive _ _ hL).1 hlL) hfL hs' hsL hr hne
 ·intro b o L al hb hfo hroot
  obtain ⟨er, hroot'⟩ := fam_ne hnf hroot
  rw [Tr.get_set] at hb
  by_cases e1 : id = b
  ·rw [if_pos e1] at hb; cases hb; exact (hfo hf).elim
  ·rw [if_neg e1] at hb
   exact R.mx b o L al hb hfo hroot'
 ·intro b hb
  obtain ⟨a1, a2, a3⟩ := R.rsv b hb
  have e : id ≠ b := by intro e; subst e; rw [a2] at hs; cases hs
  exact ⟨a1, a2, by rw [Tr.get_set_ne _ _ e]; exact a3⟩
 ·intro r ob hr
  refine ⟨(R.fz r ob hr).1, fun hi => ?_⟩
  obtain ⟨b, o, j, hb, hj, he, hnt⟩ := hi
  rw [Tr.get_set] at hb
  by_cases e : id = b
  ·subst e; rw [hs] at hj; cases hj; rw [he, hr] at hnR; cases hnR
  ·rw [if_neg e] at hb; exact (R.fz r ob hr).2 ⟨b, o, j, hb, hj, he, hnt⟩
theorem Im.lay {id : Nat} {i : BI} {ao : AO} (hs : σ id = some i) {r : Nat} (hi : Im σ (h.set id ao) r) : Im σ h r ∨ r = i.r := by
 obtain ⟨b, o, j, hb, hj, hr⟩ := hi
 rw [Tr.get_set] at hb
 by_cases e : id = b
 ·subst e; rw [hs] at hj; cases hj; exact .inr hr.symm
 ·rw [if_neg e] at hb; exact .inl ⟨b, o, j, hb, hj, hr⟩
theorem It.lay {id : Nat} {i : BI} {ao : AO} (hs : σ id = some i) {r : Nat} (hi : It σ (h.set id ao) r) : It σ h r ∨ r = i.r := by
 obtain ⟨b, o, j, hb, hj, hr, hnt⟩ := hi
 rw [Tr.get_set] at hb
 by_cases e : id = b
 ·subst e; rw [hs] at hj; cases hj; exact .inr hr.symm
 ·rw [if_neg e] at hb; exact .inl ⟨b, o, j, hb, hj, hr, hnt⟩
end
end Go.Proofs.YtpnaenbpffhjfaaGreatDoor.Ev

namespace Go.Proofs.YtpnaenbpffhjfaaGreatDoor.Ev
def PO (σ : Sg) (core : Hp) (nx : Nat) (w : World) (p : Pend) : Prop :=
 p.id < nx ∧ core.get p.id = none ∧ famOf p.ao = 0 ∧ ¬ isFam p.ao ∧ ∃ i, σ p.id = some i ∧ i.r < w.heap.size ∧ OR σ w i p.ao ∧ ¬ Im σ core i.r ∧ σ.R i.r = none
def Apart (σ : Sg) (p q : Pend) : Prop := p.id ≠ q.id ∧ ∀ i j, σ p.id = some i → σ q.id = some j → i.r ≠ j.r
def Taken (mask : Nat) (p : Pend) : Prop := mask.testBit p.ix = true
theorem PO.lay {σ : Sg} {core : Hp} {nx : Nat} {w : World} {p q : Pend} (hp : PO σ core nx w p) (hq : PO σ core nx w q) (ha : Apart σ p q) : PO σ (core.set p.id p.ao) nx w q := by
 obtain ⟨h1, h2, h3, h4, i, h5, h6, h7, h8, h9⟩ := hq
 obtain ⟨_, _, _, _, j, k5, _, _, _⟩ := hp
 refine ⟨h1, by rw [Tr.get_set_ne _ _ ha.1]; exact h2, h3, h4, i, h5, h6, h7, fun hi => ?_, h9⟩
 rcases Im.lay k5 hi with hi | hi
 ·exact h8 hi
 ·exact ha.2 j i k5 h5 hi.symm
theorem joinP_good {σ : Sg} {nx : Nat} {w : World} {mask : Nat} : ∀ (ps : List Pend) (core h' : Hp) (ps' : List Pend), joinP mask ps core = .ok h' ps' → Rel σ core nx w →
  (∀ p ∈ ps, Taken mask p → PO σ core nx w p) → ps.Pairwise (fun p q => Taken mask p → Taken mask q → Apart σ p q ∧ Apart σ q p) →
  Rel σ h' nx w ∧ ps' = ps.filter (fun p => !(mask.testBit p.ix)) ∧ (∀ r, Im σ h' r → Im σ core r ∨ ∃ p ∈ ps, Taken mask p ∧ ∃ i, σ p.id = some i ∧ i.r = r) ∧
   (∀ q : Pend, PO σ core nx w q → (∀ p ∈ ps, Taken mask p → Apart σ p q) → PO σ h' nx w q)
 | [], core, h', ps', e, R, _, _ => by
  cases e
  exact ⟨R, rfl, fun r hr => .inl hr, fun q hq _ => hq⟩
 | p :: ps, core, h', ps', e, R, hP, hA => by
  change joinC mask p (joinP mask ps core) = .ok h' ps' at e
  cases hj : joinP mask ps core with
  | no => rw [hj] at e; cases e
  | ok h1 ps1 =>
   rw [hj] at e
   change joinT (mask.testBit p.ix) p h1 ps1 = .ok h' ps' at e
   rw [List.pairwise_cons] at hA
   obtain ⟨R1, e1, I1, P1⟩ := joinP_good ps core h1 ps1 hj R (fun q hq => hP q (List.mem_cons_of_mem _ hq)) hA.2
   cases hb : mask.testBit p.ix with
   | false =>
    rw [hb] at e
    cases e
    refine ⟨R1, by rw [List.filter_cons, hb, e1]; rfl, fun r hr => ?_, fun q hq hall => P1 q hq fun x hx => hall x (List.mem_cons_of_mem _ hx)⟩
    rcases I1 r hr with h | ⟨q, hq, h⟩
    ·exact .inl h
    ·exact .inr ⟨q, List.mem_cons_of_mem _ hq, h⟩
   | true =>
    rw [hb] at e
    have hp0 := hP p (List.mem_cons_self ..) hb
    have hp1 : PO σ h1 nx w p := P1 p hp0 fun q hq ht => (hA.1 q hq hb ht).2
    obtain ⟨k1, k2, k3, k4, i, k5, k6, k7, k8, k9⟩ := hp1
    change (match aliased p.ao h1 p.id with | .ok h' => JP.ok h' ps1 | .no => JP.no) = .ok h' ps' at e
    rw [aliased_made k3] at e
    cases e
    refine ⟨R1.lay k1 k5 k2 k3 k4 k6 k7 k8 k9, by rw [List.filter_cons, hb, e1]; rfl, fun r hr => ?_, fun q hq hall => ?_⟩
    ·rcases Im.lay k5 hr with h | h
     ·rcases I1 r h with h | ⟨q, hq, h⟩
      ·exact .inl h
      ·exact .inr ⟨q, List.mem_cons_of_mem _ hq, h⟩
     ·exact .inr ⟨p, List.mem_cons_self .., hb, i, k5, h.symm⟩
    ·have hq1 := P1 q hq fun x hx => hall x (List.mem_cons_of_mem _ hx)
     exact PO.lay ⟨k1, k2, k3, k4, i, k5, k6, k7, k8, k9⟩ hq1 (hall p (List.mem_cons_self ..) hb)
theorem joinP_it {σ : Sg} {nx : Nat} {w : World} {mask : Nat} : ∀ (ps : List Pend) (core h' : Hp) (ps' : List Pend), joinP mask ps core = .ok h' ps' →
  (∀ p ∈ ps, Taken mask p → PO σ core nx w p) → ∀ r, It σ h' r → It σ core r ∨ ∃ p ∈ ps, Taken mask p ∧ ∃ i, σ p.id = some i ∧ i.r = r
 | [], core, h', ps', e, _ => by
  cases e
  exact fun r hr => .inl hr
 | p :: ps, core, h', ps', e, hP => by
  change joinC mask p (joinP mask ps core) = .ok h' ps' at e
  cases hj : joinP mask ps core with
  | no => rw [hj] at e; cases e
  | ok h1 ps1 =>
   rw [hj] at e
   change joinT (mask.testBit p.ix) p h1 ps1 = .ok h' ps' at e
   have I1 := joinP_it ps core h1 ps1 hj (fun q hq => hP q (List.mem_cons_of_mem _ hq))
   cases hb : mask.testBit p.ix with
   | false =>
    rw [hb] at e
    cases e
    intro r hr
    rcases I1 r hr with h | ⟨q, hq, h⟩
    ·exact .inl h
    ·exact .inr ⟨q, List.mem_cons_of_mem _ hq, h⟩
   | true =>
    rw [hb] at e
    obtain ⟨_, _, k3, _, i, k5, _⟩ := hP p (List.mem_cons_self ..) hb
    change (match aliased p.ao h1 p.id with | .ok h' => JP.ok h' ps1 | .no => JP.no) = .ok h' ps' at e
    rw [aliased_made k3] at e
    cases e
    intro r hr
    rcases It.lay k5 hr with h | h
    ·rcases I1 r h with h | ⟨q, hq, h⟩
     ·exact .inl h
     ·exact .inr ⟨q, List.mem_cons_of_mem _ hq, h⟩
    ·exact .inr ⟨p, List.mem_cons_self .., hb, i, k5, h.symm⟩
end Go.Proofs.YtpnaenbpffhjfaaGreatDoor.Ev

namespace Go.Proofs.YtpnaenbpffhjfaaGreatDoor.Ev
section
variable {σ σ' : Sg} {core h' : Hp} {nx nx' : Nat} {w w1 : World}
theorem frz_none {r : Nat} (F : Fwd σ core w σ' h' w1) (hr : r < w.heap.size) (h : σ.R r = none) : σ'.R r = none := by
 cases he : σ'.R r with
 | none => rfl
 | some o =>
  rcases F.fr r o he with h1 | h1
  ·rw [h] at h1; cases h1
  ·omega
theorem PO.heavy {p : Pend} (hp : PO σ core nx w p) (R : Rel σ' h' nx' w1) (F : Fwd σ core w σ' h' w1) (hn : nx ≤ nx') : PO σ' h' nx' w1 p := by
 obtain ⟨h1, h2, h3, h4, i, h5, h6, h7, h8, h9⟩ := hp
 have hs := F.sub _ _ h5
 have hni : ¬ Im σ' h' i.r := fun hi => by
  rcases F.image _ hi with h | h
  ·exact h8 h
  ·omega
 refine ⟨by omega, ?_, h3, h4, i, hs, by have := F.size; omega, (h7.mono F.sub).world (F.frame _ h6 fun x => h8 x.im), hni, frz_none F h6 h9⟩
 cases hg : h'.get p.id with
 | none => rfl
 | some o => exact (hni ⟨p.id, o, i, hg, hs, rfl⟩).elim
theorem Apart.mono {p q : Pend} (hs : Sg.le σ σ') (hp : PO σ core nx w p) (hq : PO σ core nx w q) (ha : Apart σ p q) : Apart σ' p q := by
 obtain ⟨_, _, _, _, i, h5, _⟩ := hp
 obtain ⟨_, _, _, _, j, k5, _⟩ := hq
 refine ⟨ha.1, fun i' j' hi hj => ?_⟩
 rw [hs _ _ h5] at hi; cases hi
 rw [hs _ _ k5] at hj; cases hj
 exact ha.2 _ _ h5 k5
theorem Rel.wait (R : Rel σ core nx w) {id : Nat} {i : BI} (hid : σ id = none) (hnr : ¬ σ.res id) (hg : core.get id = none) (hlt : id < nx) (hsz : w.heap.size ≤ w1.heap.size) (hh : ∀ r, r < w.heap.size → w1.heap[r]? = w.heap[r]?) :
  Rel (Sg.add σ id i) core nx w1 := by
 have hle := Sg.le_add hid i
 have hsame : ∀ b o, core.get b = some o → Sg.add σ id i b = σ b := fun b o hb => Sg.add_ne _ _ (fun e => by rw [e, hg] at hb; cases hb)
 refine ⟨⟨?_, ?_, ?_, ?_, ?_, ?_, ?_, R.gl.mono hle.fn⟩, ?_⟩
 ·intro b o hb
  rcases R.obj b o hb with h1 | ⟨j, hj, h1, h2⟩
  ·exact .inl h1
  ·exact .inr ⟨j, hle _ _ hj, Nat.lt_of_lt_of_le h1 hsz, fun hl => ((h2 hl).mono hle).world (hh _ h1)⟩
 ·intro b hb
  exact ⟨by rw [Sg.add_ne _ _ (by omega)]; exact (R.new b hb).1, (R.new b hb).2⟩
 ·intro b la al hb
  rw [hsame b _ hb]; exact R.fams b la al hb
 ·intro b1 b2 o1 o2 i1 i2 h1 h2 l1 l2 s1 s2
  rw [hsame _ _ h1] at s1
  rw [hsame _ _ h2] at s2
  exact R.sep b1 b2 o1 o2 i1 i2 h1 h2 l1 l2 s1 s2
 ·intro b o L oL j jL al hb hl hfo hroot hL hlL hfL hs hsL
  rw [hsame _ _ hb] at hs
  rw [hsame _ _ hL] at hsL
  exact R.lat b o L oL j jL al hb hl hfo hroot hL hlL hfL hs hsL
 ·exact R.mx
 ·intro b hb
  change σ.res b at hb
  obtain ⟨a1, a2, a3⟩ := R.rsv b hb
  have e : b ≠ id := by intro e; subst e; exact hnr hb
  exact ⟨a1, by rw [Sg.add_ne _ _ e]; exact a2, a3⟩
 ·refine (FzR.less (σ := σ) (τ := Sg.add σ id i) (h' := core) R.fz (fun _ _ h => h) fun r hr => ?_).world hh
  obtain ⟨b, o, j, hb, hj, he, hnt⟩ := hr
  rw [hsame b o hb] at hj
  exact ⟨b, o, j, hb, hj, he, hnt⟩
theorem It.wait {id : Nat} {i : BI} (hg : core.get id = none) {r : Nat} : It (Sg.add σ id i) core r → It σ core r := by
 rintro ⟨b, o, j, hb, hj, hr, hnt⟩
 rw [Sg.add_ne _ _ (fun e => by rw [e, hg] at hb; cases hb)] at hj
 exact ⟨b, o, j, hb, hj, hr, hnt⟩
theorem Im.wait {id : Nat} {i : BI} (hg : core.get id = none) {r : Nat} : Im (Sg.add σ id i) core r ↔ Im σ core r := by
 constructor
 ·rintro ⟨b, o, j, hb, hj, hr⟩
  rw [Sg.add_ne _ _ (fun e => by rw [e, hg] at hb; cases hb)] at hj
  exact ⟨b, o, j, hb, hj, hr⟩
 ·rintro ⟨b, o, j, hb, hj, hr⟩
  exact ⟨b, o, j, hb, by rw [Sg.add_ne _ _ (fun e => by rw [e, hg] at hb; cases hb)]; exact hj, hr⟩
theorem PO.wait {p : Pend} (hp : PO σ core nx w p) {id : Nat} {i : BI} (hid : σ id = none) (hg : core.get id = none) (hsz : w.heap.size ≤ w1.heap.size) (hh : ∀ r, r < w.heap.size → w1.heap[r]? = w.heap[r]?) :
  PO (Sg.add σ id i) core nx w1 p := by
 obtain ⟨h1, h2, h3, h4, j, h5, h6, h7, h8, h9⟩ := hp
 have hle := Sg.le_add hid i
 exact ⟨h1, h2, h3, h4, j, hle _ _ h5, Nat.lt_of_lt_of_le h6 hsz, (h7.mono hle).world (hh _ h6), fun hi => h8 ((Im.wait hg).1 hi), h9⟩
end
end Go.Proofs.YtpnaenbpffhjfaaGreatDoor.Ev

