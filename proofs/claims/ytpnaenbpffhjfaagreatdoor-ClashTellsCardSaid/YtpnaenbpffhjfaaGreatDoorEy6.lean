/- The evaluator, part 6: functions at all inputs: code run by plain equations, contracts, slices, structs, a law's arguments. No program in sight; no conditions. -/
import Derived.Test.YtpnaenbpffhjfaaGreatDoorEy5
import Derived.Attr
import Derived.ChangeArms
import Derived.DataReads
import Derived.WideShapes
set_option linter.unusedVariables false
set_option linter.unusedSimpArgs false
namespace Go.Proofs.YtpnaenbpffhjfaaGreatDoor.Ev
def tt (n : Nat) : Operand := .tmp n
def ci (n : Int) : Operand := .const (.int .i64 n)
def cb (b : Bool) : Operand := .const (.bool b)
def ff (n : Nat) : Operand := .func n
structure Iop where
 d : Option Nat
 g : Option (Nat × Bool)
 o : Op
inductive IC where
 | skip
 | ret
 | exit (id : Nat)
 | ops (l : List Iop)
 | drw (l : List (Nat × Iop))
 | no
 | seq (a b : IC)
 | cond (v : Operand) (a b : IC)
 | block (id : Nat) (b : IC)
 | loop (b : IC)
 | code (c : Code)
noncomputable def iPut (d : Option Nat) (tm : Tr Value) (v : Value) : Tr Value := match d with
 | none => tm
 | some d => tm.set d v
noncomputable def stepLay (r : HO) (d : Option Nat) (v : Value) (tm : Tr Value) (df : List DfE) (nx : Nat) : C := match r with
 | .ok h => .ok .normal (iPut d tm v) df h (nx + 1)
 | .no => .no "alias" ""
noncomputable def stepL (d : Option Nat) (res : L) (tm : Tr Value) (df : List DfE) (h : Hp) (nx : Nat) : C := match res with
 | .no => .no "light" ""
 | .val v => .ok .normal (iPut d tm v) df h nx
 | .mk v ao => stepLay (aliased ao h nx) d v tm df nx
noncomputable def stepH (d : Option Nat) (res : H) (tm : Tr Value) (df : List DfE) : C := match res with
 | .no a b => .no a b
 | .ok v h nx => .ok .normal (iPut d tm v) df h nx
noncomputable def opK (P : Program) (r : Rec) (hv : Bool) (x : Iop) (tm : Tr Value) (df : List DfE) (h : Hp) (nx : Nat) : C := match hv with
 | true => stepH x.d ((cHeavy P x.o).f r tm h nx) tm df
 | false => stepL x.d ((cLight P x.o).f tm h nx) tm df h nx
noncomputable def opG (P : Program) (r : Rec) (x : Iop) (b : Option Bool) (tm : Tr Value) (df : List DfE) (h : Hp) (nx : Nat) : C := match b with
 | some true => opK P r (heavy x.o) x tm df h nx
 | some false => .ok .normal (iPut x.d tm undef) df h nx
 | none => .no "guard" ""
noncomputable def op1 (P : Program) (r : Rec) (x : Iop) (tm : Tr Value) (df : List DfE) (h : Hp) (nx : Nat) : C := match x.g with
 | none => opK P r (heavy x.o) x tm df h nx
 | some (t, want) => opG P r x (isBO want (tm.get t)) tm df h nx
def thenK (k : Tr Value → List DfE → Hp → Nat → C) (res : C) : C := match res with
 | .ok .normal tm df h nx => k tm df h nx
 | .ok e tm df h nx => .ok e tm df h nx
 | .no a b => .no a b
noncomputable def runL (P : Program) (r : Rec) : List Iop → Tr Value → List DfE → Hp → Nat → C
 | [] => fun tm df h nx => .ok .normal tm df h nx
 | x :: l => fun tm df h nx => thenK (runL P r l) (op1 P r x tm df h nx)
inductive DC where
 | no (a b : String)
 | ok (tm : Tr Value) (h : Hp) (nx : Nat) (d : Dr)
noncomputable def stepD (d : Option Nat) (res : DO) (tm : Tr Value) : DC := match res with
 | .no a b => .no a b
 | .ok v h nx dr => .ok (iPut d tm v) h nx dr
noncomputable def dK (P : Program) (r : Rec) (hv : Bool) (i m base : Nat) (x : Iop) (tm : Tr Value) (h : Hp) (nx : Nat) (d : Dr) : DC := match hv with
 | true => stepD x.d (drHv P { o := x.o, i, m, place := "" } r base tm h nx d (joinP m d.ps h)) tm
 | false => stepD x.d (drLt P { o := x.o, i, m, place := "" } base tm h nx d) tm
noncomputable def dG (P : Program) (r : Rec) (i m base : Nat) (x : Iop) (b : Option Bool) (tm : Tr Value) (h : Hp) (nx : Nat) (d : Dr) : DC := match b with
 | some true => dK P r (heavy x.o) i m base x tm h nx d
 | some false => .ok (iPut x.d tm undef) h nx d
 | none => .no "guard" ""
noncomputable def d1 (P : Program) (r : Rec) (i m base : Nat) (x : Iop) (tm : Tr Value) (h : Hp) (nx : Nat) (d : Dr) : DC := match x.g with
 | none => dK P r (heavy x.o) i m base x tm h nx d
 | some (t, want) => dG P r i m base x (isBO want (tm.get t)) tm h nx d
def thenD (k : Tr Value → Hp → Nat → Dr → C) (res : DC) : C := match res with
 | .ok tm h nx d => k tm h nx d
 | .no a b => .no a b
noncomputable def runD (P : Program) (r : Rec) (n base : Nat) (df : List DfE) : Nat → List (Nat × Iop) → Tr Value → Hp → Nat → Dr → C
 | _, [] => fun tm h nx d => drEnd tm df nx (joinP (2 ^ n - 1) d.ps h)
 | i, x :: l => fun tm h nx d => thenD (runD P r n base df (i + 1) l) (d1 P r i x.1 base x.2 tm h nx d)
noncomputable def loopI (k : Tr Value → List DfE → Hp → Nat → C) : Nat → Tr Value → List DfE → Hp → Nat → C
 | 0 => fun _ _ _ _ => .no "fuel" ""
 | n + 1 => fun tm df h nx => thenK (loopI k n) (k tm df h nx)
noncomputable def runI (P : Program) (nt : Nat) (r : Rec) (S : Sx) : IC → Tr Value → List DfE → Hp → Nat → C
 | .skip => fun tm df h nx => .ok .normal tm df h nx
 | .ret => fun tm df h nx => .ok .ret tm df h nx
 | .exit id => fun tm df h nx => .ok (.exit id) tm df h nx
 | .ops l => runL P r l
 | .drw l => fun tm df h nx => runD P r l.length nx df 0 l tm h (nx + l.length) { ps := [], snaps := [], hv := [], lt := [] }
 | .no => fun _ _ _ _ => .no "" ""
 | .seq a b => fun tm df h nx => thenK (runI P nt r S b) (runI P nt r S a tm df h nx)
 | .cond v a b => fun tm df h nx => condC (opv v tm) (runI P nt r S a tm df h nx) (runI P nt r S b tm df h nx)
 | .block id b => fun tm df h nx => blockC id (runI P nt r S b tm df h nx)
 | .loop b => fun tm df h nx => loopI (runI P nt r S b) r.fuel tm df h nx
 | .code c => fun tm df h nx => (cBody P nt c).f r S tm df h nx
def stripO (nt : Nat) (d : Option Nat) (g : Option (Nat × Bool)) (o : Op) : Option Iop := match isDefer o with
 | true => none
 | false => match d with
  | none => some ⟨none, g, o⟩
  | some d => match Nat.blt d nt with
   | true => some ⟨some d, g, o⟩
   | false => none
def strip1 (nt : Nat) (all : List Oper) (o : Oper) : Option Iop := match o.guard with
 | none => stripO nt o.dst none o.op
 | some (j, want) => match gdst all j with
  | some t => stripO nt o.dst (some (t, want)) o.op
  | none => none
def stripL (nt : Nat) (all : List Oper) : List Oper → Option (List Iop)
 | [] => some []
 | o :: l => match strip1 nt all o with
  | some x => match stripL nt all l with
   | some xs => some (x :: xs)
   | none => none
  | none => none
def zipM : List Nat → List Iop → Option (List (Nat × Iop))
 | [], [] => some []
 | m :: ms, x :: xs => match zipM ms xs with
  | some l => some ((m, x) :: l)
  | none => none
 | _, _ => none
noncomputable def stripD (nt : Nat) (l : List Oper) : Option (List (Nat × Iop)) := match statics l l (masks l) 0 [] with
 | true => match stripL nt l l with
  | some xs => zipM (masks l) xs
  | none => none
 | false => none
noncomputable def strip (nt : Nat) : Code → Option IC
 | .skip => some .skip
 | .label _ => some .skip
 | .ret => some .ret
 | .exit id => some (.exit id)
 | .seq a b => match strip nt a with
  | some x => match strip nt b with
   | some y => some (.seq x y)
   | none => none
  | none => none
 | .cond v a b => match strip nt a with
  | some x => match strip nt b with
   | some y => some (.cond v x y)
   | none => none
  | none => none
 | .block id b => match strip nt b with
  | some x => some (.block id x)
  | none => none
 | .loop b => match strip nt b with
  | some x => some (.loop x)
  | none => none
 | .region _ l false => match stripL nt l.toList l.toList with
  | some x => some (.ops x)
  | none => none
 | .region _ l true => match stripD nt l.toList with
  | some x => some (.drw x)
  | none => none
 | c => some (.code c)
theorem thenK_thenC (res : C) (k : Tr Value → List DfE → Hp → Nat → C) : thenC res k = thenK k res := by
 cases res with
 | no a b => rfl
 | ok e tm df h nx => cases e <;> rfl
theorem opK_eq {P : Program} {nt : Nat} {r : Rec} {S : Sx} {o : Op} {d : Option Nat} {x : Iop} {g : Option (Nat × Bool)} (hs : stripO nt d g o = some x) :
  ∃ p, cPut nt d = some p ∧ x.g = g ∧ (∀ tm v, p.f tm v = iPut x.d tm v) ∧ ∀ (k : KC) (kk : Tr Value → List DfE → Hp → Nat → C), (∀ tm df h nx, k.f r S tm df h nx = kk tm df h nx) →
   ∀ tm df h nx, (cDf P o "" p k).f r S tm df h nx = thenK kk (opK P r (heavy x.o) x tm df h nx) := by
 unfold stripO at hs
 cases hd : isDefer o with
 | true => rw [hd] at hs; cases hs
 | false =>
  rw [hd] at hs
  have main : ∀ (d' : Option Nat) (p : KP), (∀ tm v, p.f tm v = iPut d' tm v) → ∀ (k : KC) (kk : Tr Value → List DfE → Hp → Nat → C), (∀ tm df h nx, k.f r S tm df h nx = kk tm df h nx) →
   ∀ tm df h nx, (cDf P o "" p k).f r S tm df h nx = thenK kk (opK P r (heavy o) ⟨d', g, o⟩ tm df h nx) := by
   intro d' p hp k kk hk tm df h nx
   have hdf : cDf P o "" p k = cOper P (heavy o) o "" p k := by cases o <;> first | rfl | cases hd
   rw [hdf]
   cases hh : heavy o with
   | true =>
    show heavyK ((cHeavy P o).f r tm h nx) "" p k r S tm df = thenK kk (stepH d' ((cHeavy P o).f r tm h nx) tm df)
    cases (cHeavy P o).f r tm h nx with
    | no a b => rfl
    | ok v h' nx' => show k.f r S (p.f tm v) df h' nx' = kk (iPut d' tm v) df h' nx'; rw [hp, hk]
   | false =>
    show lightK ((cLight P o).f tm h nx) "" p k r S tm df h nx = thenK kk (stepL d' ((cLight P o).f tm h nx) tm df h nx)
    cases (cLight P o).f tm h nx with
    | no => rfl
    | val v => show k.f r S (p.f tm v) df h nx = kk (iPut d' tm v) df h nx; rw [hp, hk]
    | mk v ao =>
     show laidC (aliased ao h nx) "" (fun h => k.f r S (p.f tm v) df h (Nat.succ nx)) = thenK kk (stepLay (aliased ao h nx) d' v tm df nx)
     cases aliased ao h nx with
     | no => rfl
     | ok h' => show k.f r S (p.f tm v) df h' (nx + 1) = kk (iPut d' tm v) df h' (nx + 1); rw [hp, hk]
  cases d with
  | none => cases hs; exact ⟨_, rfl, rfl, fun _ _ => rfl, main none _ fun _ _ => rfl⟩
  | some d =>
   simp only at hs
   cases hb : Nat.blt d nt with
   | false => rw [hb] at hs; cases hs
   | true =>
    rw [hb] at hs
    cases hs
    refine ⟨⟨fun tm v => Tr.setP (some v) (path d) tm⟩, by unfold cPut; simp only [hb], rfl, fun _ _ => rfl, main (some d) _ fun _ _ => rfl⟩
theorem strip1_eq {P : Program} {nt : Nat} {r : Rec} {S : Sx} {all : List Oper} {o : Oper} {x : Iop} (hs : strip1 nt all o = some x) {k : KC} {kk : Tr Value → List DfE → Hp → Nat → C} (hk : ∀ tm df h nx, k.f r S tm df h nx = kk tm df h nx) (tm : Tr Value) (df : List DfE) (h : Hp) (nx : Nat) :
  (cOne P nt all o k).f r S tm df h nx = thenK kk (op1 P r x tm df h nx) := by
 unfold strip1 at hs
 cases hg : o.guard with
 | none =>
  rw [hg] at hs
  obtain ⟨p, hp, hxg, hput, hrun⟩ := opK_eq (P := P) (r := r) (S := S) hs
  unfold cOne op1
  rw [hp, hg, hxg]
  exact hrun k kk hk tm df h nx
 | some jw =>
  obtain ⟨j, want⟩ := jw
  rw [hg] at hs
  simp only at hs
  cases hgd : gdst all j with
  | none => rw [hgd] at hs; cases hs
  | some t =>
   rw [hgd] at hs
   obtain ⟨p, hp, hxg, hput, hrun⟩ := opK_eq (P := P) (r := r) (S := S) hs
   unfold cOne op1
   rw [hp, hg, hxg]
   show (cGuard (cGuardD want (gdst all j)) "" (cDf P o.op "" p k) (cSkip p k)).f r S tm df h nx = thenK kk (opG P r x (isBO want (tm.get t)) tm df h nx)
   rw [hgd]
   show (match isBO want (Tr.getP (path t) tm) with | some true => (cDf P o.op "" p k).f r S tm df h nx | some false => (cSkip p k).f r S tm df h nx | none => C.no "guard" "") = thenK kk (opG P r x (isBO want (Tr.getP (path t) tm)) tm df h nx)
   cases isBO want (Tr.getP (path t) tm) with
   | none => rfl
   | some b =>
    cases b with
    | true => exact hrun k kk hk tm df h nx
    | false => show k.f r S (p.f tm undef) df h nx = kk (iPut x.d tm undef) df h nx; rw [hput, hk]
theorem stripL_eq {P : Program} {nt : Nat} {r : Rec} {S : Sx} {all : List Oper} : ∀ {l : List Oper} {xs : List Iop}, stripL nt all l = some xs → ∀ (tm : Tr Value) (df : List DfE) (h : Hp) (nx : Nat), (cSeq P nt all l).f r S tm df h nx = runL P r xs tm df h nx
 | [], xs, hs, tm, df, h, nx => by cases hs; rfl
 | o :: l, xs, hs, tm, df, h, nx => by
  unfold stripL at hs
  cases h1 : strip1 nt all o with
  | none => rw [h1] at hs; cases hs
  | some x =>
   cases h2 : stripL nt all l with
   | none => simp only [h1, h2] at hs; cases hs
   | some xs' =>
    simp only [h1, h2] at hs
    cases hs
    exact strip1_eq h1 (fun tm df h nx => stripL_eq h2 tm df h nx) tm df h nx
theorem dK_eq {P : Program} {nt : Nat} {r : Rec} {S : Sx} {o : Op} {d : Option Nat} {x : Iop} {g : Option (Nat × Bool)} (hs : stripO nt d g o = some x) :
  ∃ p, cPut nt d = some p ∧ x.g = g ∧ (∀ tm v, p.f tm v = iPut x.d tm v) ∧ x.o = o ∧ isDefer o = false := by
 unfold stripO at hs
 cases hd : isDefer o with
 | true => rw [hd] at hs; cases hs
 | false =>
  rw [hd] at hs
  cases d with
  | none => cases hs; exact ⟨_, rfl, rfl, fun _ _ => rfl, rfl, rfl⟩
  | some d =>
   simp only at hs
   cases hb : Nat.blt d nt with
   | false => rw [hb] at hs; cases hs
   | true =>
    rw [hb] at hs
    cases hs
    exact ⟨⟨fun tm v => Tr.setP (some v) (path d) tm⟩, by unfold cPut; simp only [hb], rfl, fun _ _ => rfl, rfl, rfl⟩
theorem dOper_eq {P : Program} {r : Rec} {S : Sx} {base i m : Nat} {df : List DfE} {x : Iop} {p : KP} (hp : ∀ tm v, p.f tm v = iPut x.d tm v) {k : KD} {kk : Tr Value → Hp → Nat → Dr → C} (hk : ∀ tm h nx d, k.f base r S tm df h nx d = kk tm h nx d) (tm : Tr Value) (h : Hp) (nx : Nat) (d : Dr) :
  (dOper P (heavy x.o) { o := x.o, i, m, place := "" } p k).f base r S tm df h nx d = thenD kk (dK P r (heavy x.o) i m base x tm h nx d) := by
 cases heavy x.o with
 | true =>
  show drOn (drHv P { o := x.o, i, m, place := "" } r base tm h nx d (joinP m d.ps h)) p k base r S tm df = thenD kk (stepD x.d (drHv P { o := x.o, i, m, place := "" } r base tm h nx d (joinP m d.ps h)) tm)
  cases drHv P { o := x.o, i, m, place := "" } r base tm h nx d (joinP m d.ps h) with
  | no a b => rfl
  | ok v h' nx' d' => show k.f base r S (p.f tm v) df h' nx' d' = kk (iPut x.d tm v) h' nx' d'; rw [hp, hk]
 | false =>
  show drOn (drLt P { o := x.o, i, m, place := "" } base tm h nx d) p k base r S tm df = thenD kk (stepD x.d (drLt P { o := x.o, i, m, place := "" } base tm h nx d) tm)
  cases drLt P { o := x.o, i, m, place := "" } base tm h nx d with
  | no a b => rfl
  | ok v h' nx' d' => show k.f base r S (p.f tm v) df h' nx' d' = kk (iPut x.d tm v) h' nx' d'; rw [hp, hk]
theorem dOne_eq {P : Program} {nt : Nat} {r : Rec} {S : Sx} {all : List Oper} {o : Oper} {x : Iop} (hs : strip1 nt all o = some x) {base i m : Nat} {df : List DfE} {k : KD} {kk : Tr Value → Hp → Nat → Dr → C} (hk : ∀ tm h nx d, k.f base r S tm df h nx d = kk tm h nx d) (tm : Tr Value) (h : Hp) (nx : Nat) (d : Dr) :
  (dOne P nt all o i m k).f base r S tm df h nx d = thenD kk (d1 P r i m base x tm h nx d) := by
 unfold strip1 at hs
 cases hg : o.guard with
 | none =>
  rw [hg] at hs
  obtain ⟨p, hp, hxg, hput, hxo, hdf⟩ := dK_eq (P := P) (r := r) (S := S) hs
  unfold dOne d1
  rw [hp, hg, hxg]
  show (dOper P (heavy o.op) { o := o.op, i, m, place := "" } p k).f base r S tm df h nx d = _
  rw [← hxo]
  exact dOper_eq hput hk tm h nx d
 | some jw =>
  obtain ⟨j, want⟩ := jw
  rw [hg] at hs
  simp only at hs
  cases hgd : gdst all j with
  | none => rw [hgd] at hs; cases hs
  | some t =>
   rw [hgd] at hs
   obtain ⟨p, hp, hxg, hput, hxo, hdf⟩ := dK_eq (P := P) (r := r) (S := S) hs
   unfold dOne d1
   rw [hp, hg, hxg]
   show (dGuard (cGuardD want (gdst all j)) "" (dOper P (heavy o.op) { o := o.op, i, m, place := "" } p k) (dSkip p k)).f base r S tm df h nx d = thenD kk (dG P r i m base x (isBO want (tm.get t)) tm h nx d)
   rw [hgd]
   show (match isBO want (Tr.getP (path t) tm) with | some true => (dOper P (heavy o.op) { o := o.op, i, m, place := "" } p k).f base r S tm df h nx d | some false => (dSkip p k).f base r S tm df h nx d | none => C.no "guard" "") = thenD kk (dG P r i m base x (isBO want (Tr.getP (path t) tm)) tm h nx d)
   cases isBO want (Tr.getP (path t) tm) with
   | none => rfl
   | some b =>
    cases b with
    | true =>
     show (dOper P (heavy o.op) { o := o.op, i, m, place := "" } p k).f base r S tm df h nx d = _
     rw [← hxo]
     exact dOper_eq hput hk tm h nx d
    | false => show k.f base r S (p.f tm undef) df h nx d = kk (iPut x.d tm undef) h nx d; rw [hput, hk]
theorem runD_eq {P : Program} {nt : Nat} {r : Rec} {S : Sx} {all : List Oper} {base : Nat} {df : List DfE} : ∀ {l : List Oper} {xs : List Iop} {ms : List Nat} {i : Nat} {zs : List (Nat × Iop)}, stripL nt all l = some xs → zipM ms xs = some zs →
  ∀ (tm : Tr Value) (h : Hp) (nx : Nat) (d : Dr), (cDraw P nt all l ms i).f base r S tm df h nx d = runD P r all.length base df i zs tm h nx d
 | [], xs, ms, i, zs, hs, hz, tm, h, nx, d => by
  cases hs
  cases ms with
  | nil => cases hz; rfl
  | cons m ms => cases hz
 | o :: l, xs, ms, i, zs, hs, hz, tm, h, nx, d => by
  unfold stripL at hs
  cases h1 : strip1 nt all o with
  | none => rw [h1] at hs; cases hs
  | some x =>
   cases h2 : stripL nt all l with
   | none => simp only [h1, h2] at hs; cases hs
   | some xs' =>
    simp only [h1, h2] at hs
    cases hs
    cases ms with
    | nil => cases hz
    | cons m ms =>
     unfold zipM at hz
     cases h3 : zipM ms xs' with
     | none => rw [h3] at hz; cases hz
     | some zs' =>
      rw [h3] at hz
      cases hz
      exact dOne_eq h1 (fun tm h nx d => runD_eq h2 h3 tm h nx d) tm h nx d
theorem zipM_length : ∀ {ms : List Nat} {xs : List Iop} {zs : List (Nat × Iop)}, zipM ms xs = some zs → zs.length = xs.length
 | [], [], _, h => by cases h; rfl
 | [], _ :: _, _, h => by cases h
 | _ :: _, [], _, h => by cases h
 | m :: ms, x :: xs, zs, h => by
  unfold zipM at h
  cases h3 : zipM ms xs with
  | none => rw [h3] at h; cases h
  | some zs' => rw [h3] at h; cases h; simp [zipM_length h3]
theorem stripL_length {nt : Nat} {all : List Oper} : ∀ {l : List Oper} {xs : List Iop}, stripL nt all l = some xs → xs.length = l.length
 | [], _, h => by cases h; rfl
 | o :: l, xs, h => by
  unfold stripL at h
  cases h1 : strip1 nt all o with
  | none => rw [h1] at h; cases h
  | some x =>
   cases h2 : stripL nt all l with
   | none => simp only [h1, h2] at h; cases h
   | some xs' => simp only [h1, h2] at h; cases h; simp [stripL_length h2]
theorem stripD_eq {P : Program} {nt : Nat} {r : Rec} {S : Sx} {l : List Oper} {zs : List (Nat × Iop)} (hs : stripD nt l = some zs) (tm : Tr Value) (df : List DfE) (h : Hp) (nx : Nat) :
  (cDrawn P nt l (statics l l (masks l) 0 [])).f r S tm df h nx = runD P r zs.length nx df 0 zs tm h (nx + zs.length) { ps := [], snaps := [], hv := [], lt := [] } := by
 unfold stripD at hs
 cases h0 : statics l l (masks l) 0 [] with
 | false => rw [h0] at hs; cases hs
 | true =>
  rw [h0] at hs
  simp only at hs
  cases h1 : stripL nt l l with
  | none => rw [h1] at hs; cases hs
  | some xs =>
   rw [h1] at hs
   have hl : zs.length = l.length := (zipM_length hs).trans (stripL_length h1)
   show (cDraw P nt l l (masks l) 0).f nx r S tm df h (Nat.add nx l.length) { ps := [], snaps := [], hv := [], lt := [] } = _
   rw [runD_eq h1 hs, hl]; rfl
theorem loopC_eq {b : KC} {r : Rec} {S : Sx} {k : Tr Value → List DfE → Hp → Nat → C} (hk : ∀ tm df h nx, b.f r S tm df h nx = k tm df h nx) (tm : Tr Value) (df : List DfE) (h : Hp) (nx : Nat) : loopC b r S tm df h nx = loopI k r.fuel tm df h nx := by
 unfold loopC
 generalize r.fuel = n
 induction n generalizing tm df h nx with
 | zero => rfl
 | succ n ih =>
  show thenC (b.f r S tm df h nx) _ = thenK (loopI k n) (k tm df h nx)
  rw [thenK_thenC, hk]
  congr 1
  funext tm df h nx
  exact ih tm df h nx
theorem strip_eq {P : Program} {nt : Nat} {r : Rec} {S : Sx} : ∀ {c : Code} {x : IC}, strip nt c = some x → ∀ (tm : Tr Value) (df : List DfE) (h : Hp) (nx : Nat), (cBody P nt c).f r S tm df h nx = runI P nt r S x tm df h nx
 | .skip, x, hs, tm, df, h, nx => by cases hs; rfl
 | .label _, x, hs, tm, df, h, nx => by cases hs; rfl
 | .ret, x, hs, tm, df, h, nx => by cases hs; rfl
 | .exit _, x, hs, tm, df, h, nx => by cases hs; rfl
 | .goto _, x, hs, tm, df, h, nx => by cases hs; rfl
 | .scope _, x, hs, tm, df, h, nx => by cases hs; rfl
 | .rangeFunc .., x, hs, tm, df, h, nx => by cases hs; rfl
 | .refuse _, x, hs, tm, df, h, nx => by cases hs; rfl
 | .region _ l true, x, hs, tm, df, h, nx => by
  unfold strip at hs
  cases h1 : stripD nt l.toList with
  | none => rw [h1] at hs; cases hs
  | some xs =>
   rw [h1] at hs
   cases hs
   exact stripD_eq h1 tm df h nx
 | .region id l false, x, hs, tm, df, h, nx => by
  unfold strip at hs
  cases h1 : stripL nt l.toList l.toList with
  | none => rw [h1] at hs; cases hs
  | some xs =>
   rw [h1] at hs
   cases hs
   exact stripL_eq h1 tm df h nx
 | .seq a b, x, hs, tm, df, h, nx => by
  unfold strip at hs
  cases h1 : strip nt a with
  | none => rw [h1] at hs; cases hs
  | some x1 =>
   cases h2 : strip nt b with
   | none => simp only [h1, h2] at hs; cases hs
   | some x2 =>
    simp only [h1, h2] at hs
    cases hs
    show thenC ((cBody P nt a).f r S tm df h nx) (fun tm df h nx => (cBody P nt b).f r S tm df h nx) = _
    rw [thenK_thenC, strip_eq h1]
    show _ = thenK (runI P nt r S x2) (runI P nt r S x1 tm df h nx)
    congr 1
    funext tm df h nx
    exact strip_eq h2 tm df h nx
 | .cond v a b, x, hs, tm, df, h, nx => by
  unfold strip at hs
  cases h1 : strip nt a with
  | none => rw [h1] at hs; cases hs
  | some x1 =>
   cases h2 : strip nt b with
   | none => simp only [h1, h2] at hs; cases hs
   | some x2 =>
    simp only [h1, h2] at hs
    cases hs
    show condC (opv v tm) ((cBody P nt a).f r S tm df h nx) ((cBody P nt b).f r S tm df h nx) = _
    rw [strip_eq h1, strip_eq h2]
    rfl
 | .block id b, x, hs, tm, df, h, nx => by
  unfold strip at hs
  cases h1 : strip nt b with
  | none => rw [h1] at hs; cases hs
  | some x1 =>
   rw [h1] at hs
   cases hs
   show blockC id ((cBody P nt b).f r S tm df h nx) = _
   rw [strip_eq h1]
   rfl
 | .loop b, x, hs, tm, df, h, nx => by
  unfold strip at hs
  cases h1 : strip nt b with
  | none => rw [h1] at hs; cases hs
  | some x1 =>
   rw [h1] at hs
   cases hs
   show loopC (cBody P nt b) r S tm df h nx = _
   exact loopC_eq (fun tm df h nx => strip_eq h1 tm df h nx) tm df h nx
noncomputable def fnI (P : Program) (g : FuncId) : Option (Nat × List ResultVar × IC) := match fnAt P g with
 | some fn => match fn.body with
  | some c => match strip fn.ntmps c with
   | some x => some (fn.ntmps, fn.results.toList, x)
   | none => none
  | none => none
 | none => none
noncomputable def zOf (Z : List (Nat × FzC)) (g : Nat) : Option FzC := match Z with
 | [] => none
 | p :: Z => match Nat.beq p.1 g with
  | true => some p.2
  | false => zOf Z g
noncomputable def envZ (P : Program) (X : List (Nat × Ext)) (Z : List (Nat × FzC)) : Env := { P, fz := zOf Z, ext := extT X, ov := fun _ => none, hv := fun _ => [], fk := fun _ => false, sr := fun _ => none }
def Tot (Q : Ex → Tr Value → List DfE → Hp → Nat → Prop) : C → Prop
 | .ok e tm df h nx => Q e tm df h nx
 | .no _ _ => False
def TotH (Q : Value → Hp → Nat → Prop) : H → Prop
 | .ok v h nx => Q v h nx
 | .no _ _ => False
theorem tot_then {Q : Ex → Tr Value → List DfE → Hp → Nat → Prop} {k : Tr Value → List DfE → Hp → Nat → C} {res : C} (h : Tot (fun e tm df h nx => match e with | .normal => Tot Q (k tm df h nx) | e => Q e tm df h nx) res) : Tot Q (thenK k res) := by
 cases res with
 | no _ _ => exact h
 | ok e tm df h' nx => cases e <;> exact h
mutual
theorem flat_noId : ∀ (v : Value), flat v = true → noId v = true
 | .bool _, _ => rfl
 | .int _ _, _ => rfl
 | .float _ _, _ => rfl
 | .complex _ _ _, _ => rfl
 | .string _, _ => rfl
 | .pointer none, _ => rfl
 | .pointer (some a), h => by simp [flat] at h
 | .slice none 0 0, _ => rfl
 | .slice none (n + 1) c, h => by simp [flat] at h
 | .slice none 0 (c + 1), h => by simp [flat] at h
 | .slice (some a) n c, h => by simp [flat] at h
 | .map none, _ => rfl
 | .map (some r), h => by simp [flat] at h
 | .chan none, _ => rfl
 | .chan (some r), h => by simp [flat] at h
 | .nilFunc, _ => rfl
 | .nilIface, _ => rfl
 | .func (.func f) ⟨a⟩ ⟨b⟩, h => by
  simp only [flat, Bool.and_eq_true] at h
  simp only [noId, Bool.and_eq_true]
  exact ⟨flatL_noId a h.1, flatL_noId b h.2⟩
 | .func (.method n) a b, h => by simp [flat] at h
 | .func (.methodOf t n) a b, h => by simp [flat] at h
 | .func (.via t p f q) a b, h => by simp [flat] at h
 | .func (.yield l) a b, h => by simp [flat] at h
 | .iface t v, h => by simp only [noId]; exact flat_noId v (by simpa [flat] using h)
 | .agg ⟨l⟩, h => by simp only [noId]; exact flatL_noId l (by simpa [flat] using h)
 | .tuple ⟨l⟩, h => by simp only [noId]; exact flatL_noId l (by simpa [flat] using h)
theorem flatL_noId : ∀ (l : List Value), flatL l = true → noIdL l = true
 | [], _ => rfl
 | v :: l, h => by
  simp only [flatL, Bool.and_eq_true] at h
  simp only [noIdL, Bool.and_eq_true]
  exact ⟨flat_noId v h.1, flatL_noId l h.2⟩
end
theorem zOf_mem {g : Nat} {c : FzC} : ∀ {Z : List (Nat × FzC)}, zOf Z g = some c → (g, c) ∈ Z
 | [], h => by cases h
 | p :: Z, h => by
  unfold zOf at h
  cases hb : Nat.beq p.1 g with
  | false => rw [hb] at h; exact List.mem_cons_of_mem _ (zOf_mem h)
  | true =>
   rw [hb] at h
   cases h
   rw [← beq_true.1 hb]
   exact List.mem_cons_self ..
def ZOk (P : Program) (Z : List (Nat × FzC)) : Prop := ∀ p ∈ Z, ∀ us u, p.2.F us = some u → FnOk P p.1 us u
theorem zok_nil (P : Program) : ZOk P [] := fun _ h => by cases h
theorem zok_cons {P : Program} {Z : List (Nat × FzC)} {g : Nat} {c : FzC} (h : ∀ us u, c.F us = some u → FnOk P g us u) (hZ : ZOk P Z) : ZOk P ((g, c) :: Z) := fun p hp => by
 rcases List.mem_cons.1 hp with rfl | hp
 ·exact h
 ·exact hZ p hp
theorem ProgOK.fzg {P : Program} {X : List (Nat × Ext)} {Z : List (Nat × FzC)} (hZ : ZOk P Z) : FzGood (envZ P X Z) := fun g c hg us u hu => hZ _ (zOf_mem hg) us u hu
section
variable {P : Program} {X : List (Nat × Ext)} {Z : List (Nat × FzC)} {fuel d : Nat}
theorem extZ (h : ProgOK P X []) : ExtGood (envZ P X Z) := h.ext [] [] (K := [])
theorem recZ (h : ProgOK P X []) (hZ : ZOk P Z) : RecGood P (ev (envZ P X Z) fuel d) :=
 ev_good (E := envZ P X Z) (draw_good h.draws) h.names (extZ h) (ov_none fun _ => rfl) (fun g r hr => by cases hr) (fun g q hg => by cases hg) (ProgOK.fzg hZ) fuel d
noncomputable def nameOf (P : Program) (g : Nat) : String := match fnAt P g with
 | some fn => fn.name
 | none => ""
noncomputable def callN (P : Program) (X : List (Nat × Ext)) (Z : List (Nat × FzC)) (fuel d : Nat) (o : Option (Nat × List ResultVar × IC)) (g : Nat) (args : List Value) (h : Hp) (nx : Nat) : H := match o with
 | some q => callEnd P q.2.1 (nameOf P g) (ev (envZ P X Z) fuel d) (runI P q.1 (ev (envZ P X Z) fuel d) { ro := none, fn := g, nt := q.1 } q.2.2 (Tr.ofL args) [] h nx)
 | none => (cFn1 (envZ P X Z) g (fnAt P g)).f (ev (envZ P X Z) fuel d) args h nx
theorem callN_eq (g : Nat) (args : List Value) (h : Hp) (nx : Nat) : (cFn1 (envZ P X Z) g (fnAt P g)).f (ev (envZ P X Z) fuel d) args h nx = callN P X Z fuel d (fnI P g) g args h nx := by
 cases hi : fnI P g with
 | none => rfl
 | some q =>
  have hi0 := hi
  unfold fnI at hi
  cases hf : fnAt P g with
  | none => rw [hf] at hi; cases hi
  | some fn =>
   rw [hf] at hi
   simp only at hi
   cases hb : fn.body with
   | none => rw [hb] at hi; cases hi
   | some c =>
    rw [hb] at hi
    simp only at hi
    cases hs : strip fn.ntmps c with
    | none => rw [hs] at hi; cases hi
    | some x =>
     rw [hs] at hi
     cases hi
     show (cFn2 (envZ P X Z) g fn fn.body).f (ev (envZ P X Z) fuel d) args h nx = callEnd P fn.results.toList (nameOf P g) _ _
     have hn : nameOf P g = fn.name := by unfold nameOf; rw [hf]
     rw [hb, hn]
     show callEnd P fn.results.toList fn.name _ ((cBody P fn.ntmps c).f (ev (envZ P X Z) fuel d) { ro := none, fn := g, nt := fn.ntmps } (Tr.ofL args) [] h nx) = _
     rw [strip_eq hs]
def fzOne (b : Bool) (u : Option Value) (k : H) (h : Hp) (nx : Nat) : H := match u with
 | some u => fzKeep (flat u || b) u h nx
 | none => k
def fzTwo (b : Bool) (F : List Value → Option Value) (us : List Value) (n : Bool) (k : H) (h : Hp) (nx : Nat) : H := match n with
 | true => fzOne b (F us) k h nx
 | false => k
def fzThree (b : Bool) (F : List Value → Option Value) (us : Option (List Value)) (k : H) (h : Hp) (nx : Nat) : H := match us with
 | some us => fzTwo b F us (noIdL us) k h nx
 | none => k
noncomputable def fzElse (P : Program) (X : List (Nat × Ext)) (Z : List (Nat × FzC)) (fuel d g : Nat) (args : List Value) (h : Hp) (nx : Nat) : H := callN P X Z fuel d (fnI P g) g args h nx
noncomputable def callZ (P : Program) (X : List (Nat × Ext)) (Z : List (Nat × FzC)) (fuel d : Nat) (o : Option FzC) (g : Nat) (args : List Value) (h : Hp) (nx : Nat) : H := match o with
 | some c => fzThree (noIdL args) c.F (viewL h c.vw args) (fzElse P X Z fuel d g args h nx) h nx
 | none => callN P X Z fuel d (fnI P g) g args h nx
theorem call_eq (g : Nat) (args : List Value) (h : Hp) (nx : Nat) : (ev (envZ P X Z) fuel (d + 1)).call g args h nx = callZ P X Z fuel d (zOf Z g) g args h nx := by
 show (cFn (envZ P X Z) g).f (ev (envZ P X Z) fuel d) args h nx = _
 unfold cFn
 show (cFz (zOf Z g) (cFn1 (envZ P X Z) g (fnAt P g))).f (ev (envZ P X Z) fuel d) args h nx = _
 cases zOf Z g with
 | none => exact callN_eq g args h nx
 | some c =>
  show fzSee c.F (viewL h c.vw args) (cFn1 (envZ P X Z) g (fnAt P g)) (ev (envZ P X Z) fuel d) args h nx = fzThree (noIdL args) c.F (viewL h c.vw args) (callN P X Z fuel d (fnI P g) g args h nx) h nx
  rw [← callN_eq]
  unfold fzSee fzThree
  cases viewL h c.vw args with
  | none => rfl
  | some us =>
   simp only
   unfold fzTwo
   cases noIdL us with
   | false => rfl
   | true =>
    simp only
    unfold fzAns fzOne
    cases c.F us <;> rfl
def Ans (vw : Vw) (u : Value) : H → Prop
 | .ok v h _ => viewV h vw v = some u
 | .no _ _ => False
def Ret (P : Program) (rs : List ResultVar) (vw : Vw) (u : Value) (e : Ex) (tm : Tr Value) (df : List DfE) (h : Hp) (nx : Nat) : Prop := (e = .normal ∨ e = .ret) ∧ df = [] ∧ Ans vw u (resV (evResults P rs tm h) h nx)
theorem fn_by (hP : ProgOK P X []) (hZ : ZOk P Z) {g nt : Nat} {rs : List ResultVar} {ic : IC} (hi : fnI P g = some (nt, rs, ic)) (hz : zOf Z g = none) (fuel d : Nat) (vw : Vw) {args : List Value} {u : Value} (hu : noId u = true)
  (run : Tot (Ret P rs vw u) (runI P nt (ev (envZ P X Z) fuel d) { ro := none, fn := g, nt := nt } ic (Tr.ofL args) [] .leaf 64)) : FnOk P g args u := by
 have hc : (ev (envZ P X Z) fuel (d + 1)).call g args .leaf 64 = callEnd P rs (nameOf P g) (ev (envZ P X Z) fuel d) (runI P nt (ev (envZ P X Z) fuel d) { ro := none, fn := g, nt := nt } ic (Tr.ofL args) [] .leaf 64) := by
  rw [call_eq, hz]
  show callN P X Z fuel d (fnI P g) g args .leaf 64 = _
  rw [hi]; rfl
 have hb : bodyO (P.funcs[g]?) = true := by
  unfold fnI at hi
  rw [fnAt_eq] at hi
  cases hf : P.funcs[g]? with
  | none => rw [hf] at hi; cases hi
  | some fn =>
   rw [hf] at hi
   simp only at hi
   cases hb : fn.body with
   | none => rw [hb] at hi; cases hi
   | some c => show (match fn.body with | some _ => true | none => false) = true; rw [hb]
 cases hr : runI P nt (ev (envZ P X Z) fuel d) { ro := none, fn := g, nt := nt } ic (Tr.ofL args) [] .leaf 64 with
 | no a b => rw [hr] at run; exact run.elim
 | ok e tm df h nx2 =>
  rw [hr] at run hc
  obtain ⟨he, hdf, ha⟩ := run
  subst hdf
  have hcall : (ev (envZ P X Z) fuel (d + 1)).call g args .leaf 64 = resV (evResults P rs tm h) h nx2 := by
   rw [hc]
   rcases he with rfl | rfl <;> rfl
  cases hv : resV (evResults P rs tm h) h nx2 with
  | no a b => rw [hv] at ha; exact ha.elim
  | ok v h' nx' =>
   rw [hv] at ha hcall
   exact fn_ok (E := envZ P X Z) (draw_good hP.draws) hP.names (extZ hP) (ov_none fun _ => rfl) (fun g r hr => by cases hr) (fun g q hg => by cases hg) (ProgOK.fzg hZ) (by decide) hb hcall ha hu
theorem row_fn {r : Row} (h : RowGood P r) : FnOk P r.g r.a r.v := by
 intro R w args' hR ha
 obtain ⟨h1, h2, h3⟩ := h
 have := ha.flat_eq h1
 subst this
 obtain ⟨h4, h5⟩ := h3 w
 refine ⟨h4, CallsIn.mono h5 fun e w1 he => ?_⟩
 obtain ⟨he, hb⟩ := he
 refine ⟨r.v, R, he, (flat_self (σ := ⟨fun _ => none, fun _ => False, R⟩) r.v h2).fr (flat_noId r.v h2), fun _ _ h => h, fun k o hk => ⟨?_, .inl hk⟩, hb.os, hb.tape, hb.output, hb.size, fun k hk => hb.block k hk⟩
 rw [hb.block k (Array.getElem?_eq_some_iff.1 (hR k o hk)).1]; exact hR k o hk
end
end Go.Proofs.YtpnaenbpffhjfaaGreatDoor.Ev

namespace Go.Proofs.YtpnaenbpffhjfaaGreatDoor.Ev
section
variable {P : Program} {nt : Nat} {r : Rec} {S : Sx} {tm : Tr Value} {df : List DfE} {h : Hp} {nx : Nat}
@[go_sem] theorem runI_skip : runI P nt r S .skip tm df h nx = .ok .normal tm df h nx := rfl
@[go_sem] theorem runI_ret : runI P nt r S .ret tm df h nx = .ok .ret tm df h nx := rfl
@[go_sem] theorem runI_exit (id : Nat) : runI P nt r S (.exit id) tm df h nx = .ok (.exit id) tm df h nx := rfl
@[go_sem] theorem runI_ops (l : List Iop) : runI P nt r S (.ops l) tm df h nx = runL P r l tm df h nx := rfl
@[go_sem] theorem runI_drw (l : List (Nat × Iop)) : runI P nt r S (.drw l) tm df h nx = runD P r l.length nx df 0 l tm h (nx + l.length) { ps := [], snaps := [], hv := [], lt := [] } := rfl
@[go_sem] theorem runI_seq (a b : IC) : runI P nt r S (.seq a b) tm df h nx = thenK (runI P nt r S b) (runI P nt r S a tm df h nx) := rfl
noncomputable def condI (P : Program) (nt : Nat) (r : Rec) (S : Sx) (v : Value) (a b : IC) (tm : Tr Value) (df : List DfE) (h : Hp) (nx : Nat) : C := condC v (runI P nt r S a tm df h nx) (runI P nt r S b tm df h nx)
@[go_sem] theorem runI_cond (v : Operand) (a b : IC) : runI P nt r S (.cond v a b) tm df h nx = condI P nt r S (opv v tm) a b tm df h nx := rfl
@[go_sem] theorem condI_true (a b : IC) : condI P nt r S (.bool true) a b tm df h nx = runI P nt r S a tm df h nx := rfl
@[go_sem] theorem condI_false (a b : IC) : condI P nt r S (.bool false) a b tm df h nx = runI P nt r S b tm df h nx := rfl
@[go_sem] theorem runI_block (id : Nat) (b : IC) : runI P nt r S (.block id b) tm df h nx = blockC id (runI P nt r S b tm df h nx) := rfl
@[go_sem] theorem thenK_ok (k : Tr Value → List DfE → Hp → Nat → C) : thenK k (.ok .normal tm df h nx) = k tm df h nx := rfl
@[go_sem] theorem thenK_ret (k : Tr Value → List DfE → Hp → Nat → C) : thenK k (.ok .ret tm df h nx) = .ok .ret tm df h nx := rfl
@[go_sem] theorem thenK_exit (k : Tr Value → List DfE → Hp → Nat → C) (id : Nat) : thenK k (.ok (.exit id) tm df h nx) = .ok (.exit id) tm df h nx := rfl
@[go_sem] theorem thenK_no (k : Tr Value → List DfE → Hp → Nat → C) (a b : String) : thenK k (.no a b) = .no a b := rfl
@[go_sem] theorem blockC_ok (id : Nat) : blockC id (.ok .normal tm df h nx) = .ok .normal tm df h nx := rfl
@[go_sem] theorem blockC_ret (id : Nat) : blockC id (.ok .ret tm df h nx) = .ok .ret tm df h nx := rfl
@[go_sem] theorem blockC_no (id : Nat) (a b : String) : blockC id (.no a b) = .no a b := rfl
@[go_sem] theorem blockC_exit (id j : Nat) : blockC id (.ok (.exit j) tm df h nx) = .ok (if j = id then .normal else .exit j) tm df h nx := by
 show C.ok (match Nat.beq j id with | true => Ex.normal | false => .exit j) tm df h nx = _
 by_cases e : j = id
 ·rw [if_pos e, beq_true.2 e]
 ·rw [if_neg e, beq_false.2 e]
@[go_sem] theorem runL_nil : runL P r [] tm df h nx = .ok .normal tm df h nx := rfl
@[go_sem] theorem runL_cons (x : Iop) (l : List Iop) : runL P r (x :: l) tm df h nx = thenK (runL P r l) (op1 P r x tm df h nx) := rfl
@[go_sem] theorem op1_free (d : Option Nat) (o : Op) : op1 P r ⟨d, none, o⟩ tm df h nx = opK P r (heavy o) ⟨d, none, o⟩ tm df h nx := rfl
@[go_sem] theorem op1_guard (d : Option Nat) (t : Nat) (w : Bool) (o : Op) : op1 P r ⟨d, some (t, w), o⟩ tm df h nx = opG P r ⟨d, none, o⟩ (isBO w (tm.get t)) tm df h nx := rfl
@[go_sem] theorem opG_true (x : Iop) : opG P r x (some true) tm df h nx = opK P r (heavy x.o) x tm df h nx := rfl
@[go_sem] theorem opG_false (x : Iop) : opG P r x (some false) tm df h nx = .ok .normal (iPut x.d tm undef) df h nx := rfl
@[go_sem] theorem opK_false (x : Iop) : opK P r false x tm df h nx = stepL x.d ((cLight P x.o).f tm h nx) tm df h nx := rfl
@[go_sem] theorem opK_true (x : Iop) : opK P r true x tm df h nx = stepH x.d ((cHeavy P x.o).f r tm h nx) tm df := rfl
@[go_sem] theorem stepL_val (d : Option Nat) (v : Value) : stepL d (.val v) tm df h nx = .ok .normal (iPut d tm v) df h nx := rfl
@[go_sem] theorem stepL_mk (d : Option Nat) (v : Value) (t : Tr Value) (n : Nat) : stepL d (.mk v (.cells t n 0)) tm df h nx = .ok .normal (iPut d tm v) df (h.set nx (.cells t n 0)) (nx + 1) := rfl
@[go_sem] theorem stepH_ok (d : Option Nat) (v : Value) (h' : Hp) (nx' : Nat) : stepH d (.ok v h' nx') tm df = .ok .normal (iPut d tm v) df h' nx' := rfl
@[go_sem] theorem iPut_some (d : Nat) (v : Value) : iPut (some d) tm v = tm.set d v := rfl
@[go_sem] theorem iPut_none (v : Value) : iPut none tm v = tm := rfl
@[go_sem] theorem opv_tmp (t : Nat) : opv (.tmp t) tm = orP (tm.get t) := rfl
@[go_sem] theorem opv_tt (t : Nat) : opv (tt t) tm = orP (tm.get t) := rfl
@[go_sem] theorem opv_ci (n : Int) : opv (ci n) tm = .int .i64 n := rfl
@[go_sem] theorem opv_cb (b : Bool) : opv (cb b) tm = .bool b := rfl
@[go_sem] theorem opv_ff (f : Nat) : opv (ff f) tm = .func (.func f) #[] #[] := rfl
@[go_sem] theorem opv_func (f : Nat) : opv (.func f) tm = .func (.func f) #[] #[] := rfl
@[go_sem] theorem opv_int (k : IntKind) (n : Int) : opv (.const (.int k n)) tm = .int k n := rfl
@[go_sem] theorem opv_bool (b : Bool) : opv (.const (.bool b)) tm = .bool b := rfl
@[go_sem] theorem opv_str (s : ByteArray) : opv (.const (.string s)) tm = .string s := rfl
@[go_sem] theorem opv_nilS : opv (.const (.slice none 0 0)) tm = .slice none 0 0 := rfl
@[go_sem] theorem opv_nilP : opv (.const (.pointer none)) tm = .pointer none := rfl
@[go_sem] theorem opv_nilM : opv (.const (.map none)) tm = .map none := rfl
@[go_sem] theorem opv_nilF : opv (.const .nilFunc) tm = .nilFunc := rfl
@[go_sem] theorem opv_agg (a : Array Value) (hf : flat (.agg a) = true) : opv (.const (.agg a)) tm = .agg a := by
 show constV (.agg a) = _
 unfold constV
 rw [hf]
@[go_sem] theorem orP_some (v : Value) : orP (some v) = v := rfl
end
@[go_sem] theorem get_set {α : Type} (t : Tr α) (n m : Nat) (v : α) : (t.set n v).get m = if n = m then some v else t.get m := Tr.get_set t n m v
@[go_sem] theorem get_ofL (l : List Value) (k : Nat) : (Tr.ofL l).get k = l[k]? := Tr.get_ofL l k
@[go_sem] theorem get_leaf {α : Type} (k : Nat) : (Tr.leaf : Tr α).get k = none := Tr.get_leaf k
@[go_sem] theorem isBO_some (w : Bool) (b : Bool) : isBO w (some (.bool b)) = some (b == w) := by cases b <;> cases w <;> rfl
@[go_sem] theorem isBO_undef (w : Bool) : isBO w (some undef) = some false := rfl
attribute [go_sem] heavy heavyC cLight cLightC cLightB cHeavy cHeavyC
@[go_sem] theorem cOps_eq (l : List Operand) (tm : Tr Value) : (cOps l).f tm = ops l tm := rfl
@[go_sem] theorem cOpv_eq (o : Operand) (tm : Tr Value) : (cOpv o).f tm = opv o tm := rfl
@[go_sem] theorem ops_nil' (tm : Tr Value) : ops [] tm = [] := rfl
@[go_sem] theorem ops_cons' (x : Operand) (l : List Operand) (tm : Tr Value) : ops (x :: l) tm = opv x tm :: ops l tm := rfl
attribute [go_sem] List.getElem?_cons_zero List.getElem?_cons_succ List.getElem?_nil reduceIte
theorem eqI_dec (a b : Int) : eqI a b = decide (a = b) := by
 rw [eqI_eq]
 by_cases h : a = b
 ·rw [decide_eq_true h]; simp [h]
 ·rw [decide_eq_false h]; simp [h]
@[go_sem] theorem mkPos_int (k : IntKind) (m : Nat) : mkPos k m = .int k m := mkPos_eq k m
@[go_sem] theorem nb_not (b : Bool) : nb b = !b := nb_eq b
section
variable (A : BinA) (a b : Int)
theorem binII_eq (op : BinOp) (h : A.op = op) (hr : rare op = false) (k : IntKind) : binII A k a k b = (cInt op).f k a b := by
 unfold binII
 rw [h, hr]
 have : sameK k k = true := sameK_eq.2 rfl
 rw [this]
theorem evBin_int {A : BinA} {k : IntKind} {a b : Int} {v : Value} (h : binII A k a k b = .val v) : evBin (.int k a) (.int k b) A = .val v := by
 show orL (binII A k a k b) (binU2 (rng (.int k a)) (rng (.int k b)) A.op) = _
 rw [h]; rfl
@[go_sem] theorem bin_int_lss (P : Program) (t : TypeId) (ox oy : Operand) (k : IntKind) : evBin (.int k a) (.int k b) { P, op := .lss, t, ox, oy } = .val (.bool (decide (a < b))) := by
 refine evBin_int ?_
 rw [binII_eq _ a b .lss rfl rfl]
 show L.val (.bool (nb (leI b a))) = _
 rw [nb_eq, leI_eq]
 congr 2
 by_cases h : a < b
 ·rw [decide_eq_true h, decide_eq_false (by omega)]; rfl
 ·rw [decide_eq_false h, decide_eq_true (by omega)]; rfl
@[go_sem] theorem bin_int_gtr (P : Program) (t : TypeId) (ox oy : Operand) (k : IntKind) : evBin (.int k a) (.int k b) { P, op := .gtr, t, ox, oy } = .val (.bool (decide (b < a))) := by
 refine evBin_int ?_
 rw [binII_eq _ a b .gtr rfl rfl]
 show L.val (.bool (nb (leI a b))) = _
 rw [nb_eq, leI_eq]
 congr 2
 by_cases h : b < a
 ·rw [decide_eq_true h, decide_eq_false (by omega)]; rfl
 ·rw [decide_eq_false h, decide_eq_true (by omega)]; rfl
@[go_sem] theorem bin_int_leq (P : Program) (t : TypeId) (ox oy : Operand) (k : IntKind) : evBin (.int k a) (.int k b) { P, op := .leq, t, ox, oy } = .val (.bool (decide (a ≤ b))) := by
 refine evBin_int ?_
 rw [binII_eq _ a b .leq rfl rfl]
 show L.val (.bool (leI a b)) = _
 rw [leI_eq]
@[go_sem] theorem bin_int_geq (P : Program) (t : TypeId) (ox oy : Operand) (k : IntKind) : evBin (.int k a) (.int k b) { P, op := .geq, t, ox, oy } = .val (.bool (decide (b ≤ a))) := by
 refine evBin_int ?_
 rw [binII_eq _ a b .geq rfl rfl]
 show L.val (.bool (leI b a)) = _
 rw [leI_eq]
@[go_sem] theorem bin_int_eql (P : Program) (t : TypeId) (ox oy : Operand) (k : IntKind) : evBin (.int k a) (.int k b) { P, op := .eql, t, ox, oy } = .val (.bool (decide (a = b))) := by
 refine evBin_int ?_
 rw [binII_eq _ a b .eql rfl rfl]
 show L.val (.bool (eqI a b)) = _
 rw [eqI_dec]
@[go_sem] theorem bin_int_neq (P : Program) (t : TypeId) (ox oy : Operand) (k : IntKind) : evBin (.int k a) (.int k b) { P, op := .neq, t, ox, oy } = .val (.bool (!decide (a = b))) := by
 refine evBin_int ?_
 rw [binII_eq _ a b .neq rfl rfl]
 show L.val (.bool (nb (eqI a b))) = _
 rw [nb_eq, eqI_dec]
@[go_sem] theorem bin_int_add (P : Program) (t : TypeId) (ox oy : Operand) (k : IntKind) : evBin (.int k a) (.int k b) { P, op := .add, t, ox, oy } = .val (.int k (k.wrap (a + b))) := by
 refine evBin_int ?_
 rw [binII_eq _ a b .add rfl rfl]
 show L.val (wrapV k (addI a b)) = _
 rw [wrapV_eq, addI_eq]
@[go_sem] theorem bin_int_sub (P : Program) (t : TypeId) (ox oy : Operand) (k : IntKind) : evBin (.int k a) (.int k b) { P, op := .sub, t, ox, oy } = .val (.int k (k.wrap (a - b))) := by
 refine evBin_int ?_
 rw [binII_eq _ a b .sub rfl rfl]
 show L.val (wrapV k (subI a b)) = _
 rw [wrapV_eq, subI_eq]
@[go_sem] theorem bin_int_mul (P : Program) (t : TypeId) (ox oy : Operand) (k : IntKind) : evBin (.int k a) (.int k b) { P, op := .mul, t, ox, oy } = .val (.int k (k.wrap (a * b))) := by
 refine evBin_int ?_
 rw [binII_eq _ a b .mul rfl rfl]
 show L.val (wrapV k (Int.mul a b)) = _
 rw [wrapV_eq]; rfl
end
@[go_sem] theorem un_not (P : Program) (b : Bool) : evUn .not P (.bool b) = .val (.bool (!b)) := by
 show L.val (.bool (nb b)) = _
 rw [nb_eq]
@[go_sem] theorem pick_true (a b : Value) : evPick (.bool true) a b = .val a := rfl
@[go_sem] theorem pick_false (a b : Value) : evPick (.bool false) a b = .val b := rfl
@[go_sem] theorem ble_dec (a b : Nat) : Nat.ble a b = decide (a ≤ b) := by
 by_cases h : a ≤ b
 ·rw [decide_eq_true h]; exact ble_true.2 h
 ·rw [decide_eq_false h]
  cases hb : Nat.ble a b with
  | false => rfl
  | true => exact absurd (ble_true.1 hb) h
@[go_sem] theorem blt_dec (a b : Nat) : Nat.blt a b = decide (a < b) := ble_dec (a + 1) b
@[go_sem] theorem beq_dec (a b : Nat) : Nat.beq a b = decide (a = b) := by
 by_cases h : a = b
 ·rw [decide_eq_true h]; exact beq_true.2 h
 ·rw [decide_eq_false h]; exact beq_false.2 h
@[go_sem] theorem liveB_0 (h : Hp) (b : Nat) : liveB h b 0 = true := rfl
@[go_sem] theorem dropL_drop {α : Type} (n : Nat) (l : List α) : dropL n l = l.drop n := dropL_eq n l
@[go_sem] theorem takeL_take {α : Type} (n : Nat) (l : List α) : takeL n l = l.take n := takeL_eq n l
@[go_sem] theorem nth_get {α : Type} (l : List α) (n : Nat) : nth l n = l[n]? := nth_eq l n
@[go_sem] theorem setMany_nil (t : Tr Value) (i : Nat) : Tr.setMany [] t i = t := rfl
@[go_sem] theorem setMany_cons (v : Value) (vs : List Value) (t : Tr Value) (i : Nat) : Tr.setMany (v :: vs) t i = Tr.setMany vs (t.set i v) (i + 1) := Tr.setMany_cons v vs t i
@[go_sem] theorem getMany_0 (t : Tr Value) (i : Nat) : t.getMany 0 i = some [] := rfl
@[go_sem] theorem getMany_s (t : Tr Value) (n i : Nat) : t.getMany (n + 1) i = (match t.get i with | some v => (match t.getMany n (i + 1) with | some l => some (v :: l) | none => none) | none => none) := by
 show @Option.rec Value (fun _ => Option (List Value)) none (fun v => @Option.rec (List Value) (fun _ => Option (List Value)) none (fun l => some (v :: l)) (Tr.getManyP t n (incP (path i)))) (Tr.getP (path i) t) = _
 rw [incP_path]
 show _ = (match Tr.getP (path i) t with | some v => (match Tr.getManyP t n (path (i + 1)) with | some l => some (v :: l) | none => none) | none => none)
 cases Tr.getP (path i) t with
 | none => rfl
 | some v => cases Tr.getManyP t n (path (i + 1)) <;> rfl
attribute [go_sem] loadTab cBox newBlk cAlloc newBlkT rowM cLoad loadP orTab loadC loadAO loadN one1 aggO otherP takeFp cFieldAddr fieldA fieldFp cField partF evPart lv
 cStore storeP storeC storeAO storeRoot storedA cellsV evExtract
attribute [go_sem] cLen hdK hd0 lenS cCap cIndexAddr cIndex intO evSlice okMx someO
@[go_sem] theorem len_fz (rows : List Value) : lenSl (fz rows) = .val (.int .i64 rows.length) := by
 show L.val (mkPos .i64 rows.length) = _
 rw [mkPos_eq]
@[go_sem] theorem len_nilS : lenSl (.slice none 0 0) = .val (.int .i64 0) := rfl
@[go_sem] theorem len_own (a : Addr) (n c : Nat) : lenSl (.slice (some a) n c) = .val (.int .i64 n) := by
 show L.val (mkPos .i64 n) = _
 rw [mkPos_eq]
theorem idxN_nat {k n : Nat} (h : k < n) : idxN (k : Int) n = some k := by
 show (match Nat.blt k n with | true => some k | false => none) = some k
 rw [blt_true.2 h]
theorem idx_fz {rows : List Value} {sz k : Nat} (h : k < rows.length) (hs : (cellsL rows[k]).length = sz) : idxSl (fz rows) sz (k : Int) = .val (fp (cellsL rows[k])) := by
 show (match idxN (k : Int) rows.length with | some m => rowFp (nth rows m) sz | none => .no) = _
 rw [idxN_nat h]
 show rowFp (nth rows k) sz = _
 rw [nth_eq, List.getElem?_eq_getElem h]
 show (match Nat.beq (cellsL rows[k]).length sz with | true => L.val (fp (cellsL rows[k])) | false => .no) = _
 rw [beq_true.2 hs]
@[go_sem] theorem ptrO_fp (cs : List Value) : ptrO (fp cs) = none := rfl
@[go_sem] theorem fpO_fp (cs : List Value) : fpO (fp cs) = some cs := rfl
@[go_sem] theorem nilCheck_fp (cs : List Value) : evNilCheck (fp cs) = .val (fp cs) := rfl
@[go_sem] theorem nilCheck_pt (a : Addr) : evNilCheck (.pointer (some a)) = .val (.pointer (some a)) := rfl
@[go_sem] theorem knownV_fz (rows : List Value) : knownV (fz rows) = true := rfl
@[go_sem] theorem knownV_fp (cs : List Value) : knownV (fp cs) = true := rfl
@[go_sem] theorem cellsL_fz (rows : List Value) : cellsL (fz rows) = [fz rows] := rfl
@[go_sem] theorem cellsL_fp (cs : List Value) : cellsL (fp cs) = [fp cs] := rfl
@[go_sem] theorem cellV_fz (rows : List Value) : cellV (fz rows) = true := rfl
@[go_sem] theorem flat_fz (rows : List Value) : flat (fz rows) = false := rfl
@[go_sem] theorem noId_fz (rows : List Value) : noId (fz rows) = true := rfl
@[go_sem] theorem viewS_fz (h : Hp) (a : Bool) (sz : Nat) (rows : List Value) : viewS h a sz (fz rows) = some (fz rows) := rfl
@[go_sem] theorem viewS_nil (h : Hp) (a : Bool) (sz : Nat) : viewS h a sz (.slice none 0 0) = some (fz []) := rfl
@[go_sem] theorem knownV_int (k : IntKind) (n : Int) : knownV (.int k n) = true := rfl
@[go_sem] theorem cellV_int (k : IntKind) (n : Int) : cellV (.int k n) = true := rfl
@[go_sem] theorem cellsL_int (k : IntKind) (n : Int) : cellsL (.int k n) = [.int k n] := rfl
@[go_sem] theorem knownV_bool (b : Bool) : knownV (.bool b) = true := rfl
@[go_sem] theorem cellV_bool (b : Bool) : cellV (.bool b) = true := rfl
@[go_sem] theorem cellsL_bool (b : Bool) : cellsL (.bool b) = [.bool b] := rfl
@[go_sem] theorem knownV_str (s : ByteArray) : knownV (.string s) = true := rfl
@[go_sem] theorem cellV_str (s : ByteArray) : cellV (.string s) = true := rfl
@[go_sem] theorem cellsL_str (s : ByteArray) : cellsL (.string s) = [.string s] := rfl
@[go_sem] theorem knownV_ptr (a : Option Addr) : knownV (.pointer a) = true := rfl
@[go_sem] theorem cellV_ptr (a : Option Addr) : cellV (.pointer a) = true := rfl
@[go_sem] theorem cellsL_ptr (a : Option Addr) : cellsL (.pointer a) = [.pointer a] := rfl
@[go_sem] theorem knownV_slc (a : Option Addr) (n c : Nat) : knownV (.slice a n c) = true := rfl
@[go_sem] theorem cellV_slc (a : Option Addr) (n c : Nat) : cellV (.slice a n c) = true := rfl
@[go_sem] theorem cellsL_slc (a : Option Addr) (n c : Nat) : cellsL (.slice a n c) = [.slice a n c] := rfl
@[go_sem] theorem knownV_map (m : Option Nat) : knownV (.map m) = true := rfl
@[go_sem] theorem cellV_map (m : Option Nat) : cellV (.map m) = true := rfl
@[go_sem] theorem cellsL_map (m : Option Nat) : cellsL (.map m) = [.map m] := rfl
@[go_sem] theorem knownV_fnc (f : FuncId) (a b : Array Value) : knownV (.func (.func f) a b) = true := rfl
@[go_sem] theorem cellV_fnc (f : FuncId) (a b : Array Value) : cellV (.func (.func f) a b) = true := rfl
@[go_sem] theorem cellsL_fnc (f : FuncId) (a b : Array Value) : cellsL (.func (.func f) a b) = [.func (.func f) a b] := rfl
@[go_sem] theorem knownV_yld (l : Nat) (a b : Array Value) : knownV (.func (.yield l) a b) = true := rfl
@[go_sem] theorem cellV_yld (l : Nat) (a b : Array Value) : cellV (.func (.yield l) a b) = true := rfl
@[go_sem] theorem cellsL_yld (l : Nat) (a b : Array Value) : cellsL (.func (.yield l) a b) = [.func (.yield l) a b] := rfl
@[go_sem] theorem knownV_nlf  : knownV (.nilFunc) = true := rfl
@[go_sem] theorem cellV_nlf  : cellV (.nilFunc) = true := rfl
@[go_sem] theorem cellsL_nlf  : cellsL (.nilFunc) = [.nilFunc] := rfl
@[go_sem] theorem knownV_nli  : knownV (.nilIface) = true := rfl
@[go_sem] theorem cellV_nli  : cellV (.nilIface) = true := rfl
@[go_sem] theorem cellsL_nli  : cellsL (.nilIface) = [.nilIface] := rfl
@[go_sem] theorem knownV_ifc (t : TypeId) (v : Value) : knownV (.iface t v) = true := rfl
@[go_sem] theorem cellV_ifc (t : TypeId) (v : Value) : cellV (.iface t v) = true := rfl
@[go_sem] theorem cellsL_ifc (t : TypeId) (v : Value) : cellsL (.iface t v) = [.iface t v] := rfl
@[go_sem] theorem knownV_agg (a : Array Value) : knownV (.agg a) = true := rfl
@[go_sem] theorem cellsL_agg (l : List Value) : cellsL (.agg ⟨l⟩) = l := rfl
@[go_sem] theorem ptrO_at (b o : Nat) : ptrO (.pointer (some ⟨b, o, none⟩)) = some ⟨b, o, none⟩ := rfl
@[go_sem] theorem cellV_fp (cs : List Value) : cellV (fp cs) = true := rfl
@[go_sem] theorem fzO_fz (rows : List Value) : fzO (fz rows) = some rows := rfl
@[go_sem] theorem lenV_fz (rows : List Value) : lenV (fz rows) = some rows.length := rfl
section
variable {P : Program} {r : Rec} {n base i m : Nat} {tm : Tr Value} {df : List DfE} {h : Hp} {nx : Nat} {d : Dr}
@[go_sem] theorem runD_nil : runD P r n base df i [] tm h nx d = drEnd tm df nx (joinP (2 ^ n - 1) d.ps h) := rfl
@[go_sem] theorem runD_cons (x : Nat × Iop) (l : List (Nat × Iop)) : runD P r n base df i (x :: l) tm h nx d = thenD (runD P r n base df (i + 1) l) (d1 P r i x.1 base x.2 tm h nx d) := rfl
@[go_sem] theorem thenD_ok (k : Tr Value → Hp → Nat → Dr → C) : thenD k (.ok tm h nx d) = k tm h nx d := rfl
@[go_sem] theorem thenD_no (k : Tr Value → Hp → Nat → Dr → C) (a b : String) : thenD k (.no a b) = .no a b := rfl
@[go_sem] theorem d1_free (dd : Option Nat) (o : Op) : d1 P r i m base ⟨dd, none, o⟩ tm h nx d = dK P r (heavy o) i m base ⟨dd, none, o⟩ tm h nx d := rfl
@[go_sem] theorem d1_guard (dd : Option Nat) (t : Nat) (w : Bool) (o : Op) : d1 P r i m base ⟨dd, some (t, w), o⟩ tm h nx d = dG P r i m base ⟨dd, none, o⟩ (isBO w (tm.get t)) tm h nx d := rfl
@[go_sem] theorem dG_true (x : Iop) : dG P r i m base x (some true) tm h nx d = dK P r (heavy x.o) i m base x tm h nx d := rfl
@[go_sem] theorem dG_false (x : Iop) : dG P r i m base x (some false) tm h nx d = .ok (iPut x.d tm undef) h nx d := rfl
@[go_sem] theorem dK_false (x : Iop) : dK P r false i m base x tm h nx d = stepD x.d (drLight P { o := x.o, i, m, place := "" } base tm h nx d ((cLight P x.o).f tm .leaf (base + i))) tm := rfl
@[go_sem] theorem dK_true (x : Iop) : dK P r true i m base x tm h nx d = stepD x.d (drHv P { o := x.o, i, m, place := "" } r base tm h nx d (joinP m d.ps h)) tm := rfl
@[go_sem] theorem stepD_ok (dd : Option Nat) (v : Value) : stepD dd (.ok v h nx d) tm = .ok (iPut dd tm v) h nx d := rfl
@[go_sem] theorem drLight_val (X : Ix) (v : Value) : drLight P X base tm h nx d (.val v) = .ok v h nx d := rfl
@[go_sem] theorem drLight_no (X : Ix) : drLight P X base tm h nx d .no = drRead P X base tm h nx d (joinP X.m d.ps h) := rfl
@[go_sem] theorem drLight_mk (X : Ix) (v : Value) (ao : AO) : drLight P X base tm h nx d (.mk v ao) = drMade X base v ao h nx d := rfl
@[go_sem] theorem drRead_ok (X : Ix) (ps : List Pend) (h0 : Hp) : drRead P X base tm h0 nx d (.ok h ps) = drOpen P X base tm h0 nx d ((cLight P X.o).f tm h (base + X.i)) := rfl
@[go_sem] theorem drOpen_val (X : Ix) (v : Value) (h0 : Hp) : drOpen P X base tm h0 nx d (.val v) = (match again (cLight P X.o) tm X.m (base + X.i) v (window X.m d.hv d.snaps) with | true => .ok v h0 nx { d with lt := { ix := X.i, mask := X.m, o := cLight P X.o, v, tm } :: d.lt } | false => .no "again" X.place) := rfl
@[go_sem] theorem again_nil (o : KL) (v : Value) : again o tm m i v [] = true := rfl
@[go_sem] theorem again_cons (o : KL) (v : Value) (s : Snap) (l : List Snap) : again o tm m i v (s :: l) = (match sameJ (joinP m s.ps s.h) o tm i v with | true => again o tm m i v l | false => false) := rfl
@[go_sem] theorem joinP_nil : joinP m [] h = .ok h [] := rfl
@[go_sem] theorem joinP_cons (p : Pend) (ps : List Pend) : joinP m (p :: ps) h = joinC m p (joinP m ps h) := rfl
@[go_sem] theorem joinC_ok (p : Pend) (ps : List Pend) : joinC m p (.ok h ps) = joinT (m.testBit p.ix) p h ps := rfl
@[go_sem] theorem joinT_false (p : Pend) (ps : List Pend) : joinT false p h ps = .ok h (p :: ps) := rfl
@[go_sem] theorem joinT_true (ix id : Nat) (t : Tr Value) (sz : Nat) (ps : List Pend) : joinT true ⟨ix, id, .cells t sz 0⟩ h ps = .ok (h.set id (.cells t sz 0)) ps := rfl
@[go_sem] theorem sameJ_ok (ps : List Pend) (o : KL) (v : Value) : sameJ (.ok h ps) o tm i v = sameL (o.f tm h i) v := rfl
@[go_sem] theorem sameL_val (u v : Value) : sameL (.val u) v = sameV u v := rfl
@[go_sem] theorem sameV_int (k : IntKind) (a : Int) : sameV (.int k a) (.int k a) = true := by
 show (sameK k k && eqI a a) = true
 rw [sameK_eq.2 rfl, eqI_dec]; simp
@[go_sem] theorem sameV_bool (a : Bool) : sameV (.bool a) (.bool a) = true := by cases a <;> rfl
@[go_sem] theorem sameV_str (a : ByteArray) : sameV (.string a) (.string a) = true := by
 show eqB a.data.toList a.data.toList = true
 rw [beqB]; simp
@[go_sem] theorem drHv_ok (X : Ix) (ps : List Pend) (h0 : Hp) : drHv P X r base tm h0 nx d (.ok h ps) = (match chained X.m d.hv with | true => drHeavy X base h0 ps d ((cHeavy P X.o).f r tm h nx) | false => .no "two heavy" X.place) := rfl
@[go_sem] theorem drHeavy_ok (X : Ix) (ps : List Pend) (v : Value) (h' h0 : Hp) (nx' : Nat) : drHeavy X base h0 ps d (.ok v h' nx') = drLates X v h' h0 nx' ps d (lates base X.m h' ps d.lt) := rfl
@[go_sem] theorem drLates_some (X : Ix) (v : Value) (h0 : Hp) (ps : List Pend) (lt : List Late) : drLates X v h h0 nx ps d (some lt) = .ok v h nx { ps, snaps := { h := h0, ps := d.ps } :: d.snaps, hv := X.i :: d.hv, lt } := rfl
@[go_sem] theorem lates_nil (ps : List Pend) : lates base m h ps [] = some [] := rfl
@[go_sem] theorem lates_cons (ps : List Pend) (x : Late) (l : List Late) : lates base m h ps (x :: l) = (match m.testBit x.ix with
  | true => lates base m h ps l
  | false => match sameJ (joinP x.mask ps h) x.o x.tm (base + x.ix) x.v with
   | true => match lates base m h ps l with
    | some l' => some (x :: l')
    | none => none
   | false => none) := rfl
@[go_sem] theorem drEnd_ok (ps : List Pend) : drEnd tm df nx (.ok h ps) = .ok .normal tm df h nx := rfl
attribute [go_sem] chained drMade isSlice window
end
theorem fuel_ev (E : Env) (fuel d : Nat) : (ev E fuel (d + 1)).fuel = fuel := rfl
@[go_sem] theorem runI_loop {P : Program} {nt : Nat} {E : Env} {fuel d : Nat} {S : Sx} {tm : Tr Value} {df : List DfE} {h : Hp} {nx : Nat} (b : IC) : runI P nt (ev E fuel (d + 1)) S (.loop b) tm df h nx = loopI (runI P nt (ev E fuel (d + 1)) S b) fuel tm df h nx := rfl
def LoopQ (I : Nat → Tr Value → List DfE → Hp → Nat → Prop) (Q : Ex → Tr Value → List DfE → Hp → Nat → Prop) (K : Tr Value → List DfE → Hp → Nat → C) (id m : Nat) (e : Ex) (tm : Tr Value) (df : List DfE) (h : Hp) (nx : Nat) : Prop := match e with
 | .normal => ∃ m', m' < m ∧ I m' tm df h nx
 | .exit j => if j = id then Tot Q (K tm df h nx) else Q (.exit j) tm df h nx
 | .ret => Q .ret tm df h nx
 | .goto l => Q (.goto l) tm df h nx
section
variable {I : Nat → Tr Value → List DfE → Hp → Nat → Prop} {Q : Ex → Tr Value → List DfE → Hp → Nat → Prop} {K : Tr Value → List DfE → Hp → Nat → C} {id m : Nat} {tm : Tr Value} {df : List DfE} {h : Hp} {nx : Nat}
@[go_sem] theorem LoopQ_normal : LoopQ I Q K id m .normal tm df h nx = ∃ m', m' < m ∧ I m' tm df h nx := rfl
@[go_sem] theorem LoopQ_exit (j : Nat) : LoopQ I Q K id m (.exit j) tm df h nx = if j = id then Tot Q (K tm df h nx) else Q (.exit j) tm df h nx := rfl
@[go_sem] theorem LoopQ_ret : LoopQ I Q K id m .ret tm df h nx = Q .ret tm df h nx := rfl
end
theorem tot_loop {Q : Ex → Tr Value → List DfE → Hp → Nat → Prop} {K k : Tr Value → List DfE → Hp → Nat → C} {id : Nat} (I : Nat → Tr Value → List DfE → Hp → Nat → Prop)
  {n m : Nat} {tm : Tr Value} {df : List DfE} {h : Hp} {nx : Nat} (hm : m < n) (hI : I m tm df h nx) (step : ∀ m tm df h nx, I m tm df h nx → Tot (LoopQ I Q K id m) (k tm df h nx)) : Tot Q (thenK K (blockC id (loopI k n tm df h nx))) := by
 induction n generalizing m tm df h nx with
 | zero => omega
 | succ n ih =>
  have hs := step m tm df h nx hI
  show Tot Q (thenK K (blockC id (thenK (loopI k n) (k tm df h nx))))
  cases hk : k tm df h nx with
  | no a b => rw [hk] at hs; exact hs.elim
  | ok e tm' df' h' nx' =>
   rw [hk] at hs
   cases e with
   | normal =>
    obtain ⟨m', h1, h2⟩ := hs
    exact ih (by omega) h2
   | exit j =>
    change (if j = id then Tot Q (K tm' df' h' nx') else Q (.exit j) tm' df' h' nx') at hs
    show Tot Q (thenK K (blockC id (.ok (.exit j) tm' df' h' nx')))
    rw [blockC_exit]
    by_cases e : j = id
    ·rw [if_pos e] at hs ⊢; exact hs
    ·rw [if_neg e] at hs ⊢; exact hs
   | ret => exact hs
   | goto l => exact hs
theorem tot_mono {Q Q' : Ex → Tr Value → List DfE → Hp → Nat → Prop} {c : C} (h : Tot Q c) (hq : ∀ e tm df h nx, Q e tm df h nx → Q' e tm df h nx) : Tot Q' c := by
 cases c with
 | no _ _ => exact h
 | ok e tm df h' nx => exact hq _ _ _ _ _ h
theorem wrap64 {n : Int} (h0 : -9223372036854775808 ≤ n) (h1 : n ≤ 9223372036854775807) : IntKind.wrap .i64 n = n := by
 unfold IntKind.wrap
 simp only [IntKind.bits, IntKind.signed, Bool.true_and]
 by_cases h : n < 0
 ·have e : n % 18446744073709551616 = n + 18446744073709551616 := by omega
  simp only [Int.reducePow, Nat.reduceSub, e, ge_iff_le, decide_eq_true_eq]
  rw [if_pos (by omega)]
  omega
 ·have e : n % 18446744073709551616 = n := by omega
  simp only [Int.reducePow, Nat.reduceSub, e, ge_iff_le, decide_eq_true_eq]
  rw [if_neg (by omega)]
attribute [go_sem] callV
@[go_sem] theorem cCall_ff (g : Nat) (xs : KVs) (r : Rec) (tm : Tr Value) (h : Hp) (nx : Nat) : (cCall (ff g) xs).f r tm h nx = r.call g (xs.f tm) h nx := rfl
@[go_sem] theorem cCall_tt (t : Nat) (xs : KVs) (r : Rec) (tm : Tr Value) (h : Hp) (nx : Nat) : (cCall (tt t) xs).f r tm h nx = callV (opv (tt t) tm) r (xs.f tm) h nx := rfl
section
variable {P : Program} {X : List (Nat × Ext)} {Z : List (Nat × FzC)} {fuel d g : Nat} {args : List Value} {h : Hp} {nx : Nat}
@[go_sem] theorem call_go : (ev (envZ P X Z) fuel (d + 1)).call g args h nx = callZ P X Z fuel d (zOf Z g) g args h nx := call_eq g args h nx
@[go_sem] theorem callZ_some (c : FzC) : callZ P X Z fuel d (some c) g args h nx = fzThree (noIdL args) c.F (viewL h c.vw args) (fzElse P X Z fuel d g args h nx) h nx := rfl
@[go_sem] theorem callZ_none : callZ P X Z fuel d none g args h nx = callN P X Z fuel d (fnI P g) g args h nx := rfl
@[go_sem] theorem callN_some (nt : Nat) (rs : List ResultVar) (ic : IC) : callN P X Z fuel d (some (nt, rs, ic)) g args h nx = callEnd P rs (nameOf P g) (ev (envZ P X Z) fuel d) (runI P nt (ev (envZ P X Z) fuel d) { ro := none, fn := g, nt := nt } ic (Tr.ofL args) [] h nx) := rfl
@[go_sem] theorem callEnd_normal (rs : List ResultVar) (name : String) (R : Rec) (tm : Tr Value) : callEnd P rs name R (.ok .normal tm [] h nx) = resV (evResults P rs tm h) h nx := rfl
@[go_sem] theorem callEnd_ret (rs : List ResultVar) (name : String) (R : Rec) (tm : Tr Value) : callEnd P rs name R (.ok .ret tm [] h nx) = resV (evResults P rs tm h) h nx := rfl
@[go_sem] theorem fzThree_some (b : Bool) (F : List Value → Option Value) (us : List Value) (k : H) : fzThree b F (some us) k h nx = fzTwo b F us (noIdL us) k h nx := rfl
@[go_sem] theorem fzTwo_true (b : Bool) (F : List Value → Option Value) (us : List Value) (k : H) : fzTwo b F us true k h nx = fzOne b (F us) k h nx := rfl
@[go_sem] theorem fzOne_some (b : Bool) (u : Value) (k : H) : fzOne b (some u) k h nx = fzKeep (flat u || b) u h nx := rfl
@[go_sem] theorem fzKeep_true (u : Value) : fzKeep true u h nx = .ok u h nx := rfl
end
attribute [go_sem] flat flatL noId noIdL viewL viewV view1 view1L Bool.or_true Bool.true_or Bool.and_self Bool.and_true Bool.true_and
@[go_sem] theorem Tot_ok (Q : Ex → Tr Value → List DfE → Hp → Nat → Prop) (e : Ex) (tm : Tr Value) (df : List DfE) (h : Hp) (nx : Nat) : Tot Q (.ok e tm df h nx) = Q e tm df h nx := rfl
section
variable {P : Program} {rs : List ResultVar} {vw : Vw} {u : Value} {tm : Tr Value} {h : Hp} {nx : Nat}
@[go_sem] theorem Ret_ret : Ret P rs vw u .ret tm [] h nx = Ans vw u (resV (evResults P rs tm h) h nx) := by unfold Ret; simp
@[go_sem] theorem Ret_normal : Ret P rs vw u .normal tm [] h nx = Ans vw u (resV (evResults P rs tm h) h nx) := by unfold Ret; simp
@[go_sem] theorem Ans_ok (v : Value) : Ans vw u (.ok v h nx) = (viewV h vw v = some u) := rfl
attribute [go_sem] evResults resOne resV
end
end Go.Proofs.YtpnaenbpffhjfaaGreatDoor.Ev

namespace Go.Proofs.YtpnaenbpffhjfaaGreatDoor.Ev
open Classical in
noncomputable def dec {α : Type} (enc : α → Value) (v : Value) : Option α := if h : ∃ a, enc a = v then some h.choose else none
theorem dec_some {α : Type} {enc : α → Value} {v : Value} {a : α} (h : dec enc v = some a) : v = enc a := by
 unfold dec at h
 split at h
 ·rename_i hx; cases h; exact hx.choose_spec.symm
 ·cases h
theorem dec_enc {α : Type} {enc : α → Value} (inj : ∀ a b, enc a = enc b → a = b) (a : α) : dec enc (enc a) = some a := by
 unfold dec
 have hx : ∃ b, enc b = enc a := ⟨a, rfl⟩
 rw [dif_pos hx]
 exact congrArg some (inj _ _ hx.choose_spec)
noncomputable def F1 {α : Type} (ea : α → Value) (f : α → Value) : List Value → Option Value
 | [v] => (dec ea v).map f
 | _ => none
noncomputable def F2 {α β : Type} (ea : α → Value) (eb : β → Value) (f : α → β → Value) : List Value → Option Value
 | [v, w] => (dec ea v).bind fun a => (dec eb w).map (f a)
 | _ => none
noncomputable def F3 {α β γ : Type} (ea : α → Value) (eb : β → Value) (ec : γ → Value) (f : α → β → γ → Value) : List Value → Option Value
 | [v, w, x] => (dec ea v).bind fun a => (dec eb w).bind fun b => (dec ec x).map (f a b)
 | _ => none
@[go_sem] theorem F1_eq {α : Type} (ea : α → Value) (f : α → Value) (v : Value) : F1 ea f [v] = (dec ea v).map f := rfl
@[go_sem] theorem F2_eq {α β : Type} (ea : α → Value) (eb : β → Value) (f : α → β → Value) (v w : Value) : F2 ea eb f [v, w] = (dec ea v).bind fun a => (dec eb w).map (f a) := rfl
@[go_sem] theorem F3_eq {α β γ : Type} (ea : α → Value) (eb : β → Value) (ec : γ → Value) (f : α → β → γ → Value) (v w x : Value) : F3 ea eb ec f [v, w, x] = (dec ea v).bind fun a => (dec eb w).bind fun b => (dec ec x).map (f a b) := rfl
attribute [go_sem] Option.map_some Option.bind_some
theorem F1_ok {P : Program} {g : FuncId} {α : Type} {ea : α → Value} {f : α → Value} (h : ∀ a, FnOk P g [ea a] (f a)) (us : List Value) (u : Value) (hu : F1 ea f us = some u) : FnOk P g us u := by
 unfold F1 at hu
 split at hu
 ·rename_i v
  cases hd : dec ea v with
  | none => rw [hd] at hu; cases hu
  | some a => rw [hd] at hu; cases hu; rw [dec_some hd]; exact h a
 ·cases hu
theorem F2_ok {P : Program} {g : FuncId} {α β : Type} {ea : α → Value} {eb : β → Value} {f : α → β → Value} (h : ∀ a b, FnOk P g [ea a, eb b] (f a b)) (us : List Value) (u : Value) (hu : F2 ea eb f us = some u) : FnOk P g us u := by
 unfold F2 at hu
 split at hu
 ·rename_i v w
  cases hd : dec ea v with
  | none => rw [hd] at hu; cases hu
  | some a =>
   cases he : dec eb w with
   | none => rw [hd, he] at hu; cases hu
   | some b => rw [hd, he] at hu; cases hu; rw [dec_some hd, dec_some he]; exact h a b
 ·cases hu
theorem F3_ok {P : Program} {g : FuncId} {α β γ : Type} {ea : α → Value} {eb : β → Value} {ec : γ → Value} {f : α → β → γ → Value} (h : ∀ a b c, FnOk P g [ea a, eb b, ec c] (f a b c)) (us : List Value) (u : Value) (hu : F3 ea eb ec f us = some u) : FnOk P g us u := by
 unfold F3 at hu
 split at hu
 ·rename_i v w x
  cases hd : dec ea v with
  | none => rw [hd] at hu; cases hu
  | some a =>
   cases he : dec eb w with
   | none => rw [hd, he] at hu; cases hu
   | some b =>
    cases hf : dec ec x with
    | none => rw [hd, he, hf] at hu; cases hu
    | some c => rw [hd, he, hf] at hu; cases hu; rw [dec_some hd, dec_some he, dec_some hf]; exact h a b c
 ·cases hu
def eI (n : Int) : Value := .int .i64 n
def eB (b : Bool) : Value := .bool b
def eS (s : ByteArray) : Value := .string s
def eU8 (b : UInt8) : Value := .int .u8 (b.toNat : Int)
def eL {α : Type} (e : α → Value) (l : List α) : Value := fz (l.map e)
theorem eI_inj (a b : Int) (h : eI a = eI b) : a = b := by cases h; rfl
theorem eB_inj (a b : Bool) (h : eB a = eB b) : a = b := by cases h; rfl
theorem eS_inj (a b : ByteArray) (h : eS a = eS b) : a = b := by cases h; rfl
theorem eU8_inj (a b : UInt8) (h : eU8 a = eU8 b) : a = b := by
 unfold eU8 at h
 injection h with _ h
 have : a.toNat = b.toNat := by omega
 exact UInt8.toNat_inj.1 this
theorem map_inj {α : Type} {e : α → Value} (inj : ∀ a b, e a = e b → a = b) : ∀ (l m : List α), l.map e = m.map e → l = m
 | [], [], _ => rfl
 | [], _ :: _, h => by cases h
 | _ :: _, [], h => by cases h
 | a :: l, b :: m, h => by
  simp only [List.map_cons, List.cons.injEq] at h
  rw [inj a b h.1, map_inj inj l m h.2]
theorem eL_inj {α : Type} {e : α → Value} (inj : ∀ a b, e a = e b → a = b) (l m : List α) (h : eL e l = eL e m) : l = m := by
 unfold eL fz at h
 injection h with _ h _
 injection h with h
 exact map_inj inj l m h
@[go_sem] theorem dec_int (n : Int) : dec eI (.int .i64 n) = some n := dec_enc eI_inj n
@[go_sem] theorem dec_bool (b : Bool) : dec eB (.bool b) = some b := dec_enc eB_inj b
@[go_sem] theorem dec_str (s : ByteArray) : dec eS (.string s) = some s := dec_enc eS_inj s
def eY (l : List UInt8) : Value := fz (l.map eU8)
theorem eY_inj (l m : List UInt8) (h : eY l = eY m) : l = m := eL_inj eU8_inj l m h
@[go_sem] theorem dec_bytes (l : List UInt8) : dec eY (fz (l.map eU8)) = some l := dec_enc eY_inj l
@[go_sem] theorem dec_bytes0 : dec eY (fz []) = some [] := dec_enc eY_inj []
theorem idx_map {α : Type} {e : α → Value} {l : List α} {sz k : Nat} (h : k < l.length) (hs : ∀ a, (cellsL (e a)).length = sz) : idxSl (fz (l.map e)) sz (k : Int) = .val (fp (cellsL (e l[k]))) := by
 rw [idx_fz (by simpa using h) (by rw [List.getElem_map]; exact hs _), List.getElem_map]
end Go.Proofs.YtpnaenbpffhjfaaGreatDoor.Ev

namespace Go.Proofs.YtpnaenbpffhjfaaGreatDoor.Ev
attribute [go_sem] Nat.testBit evBuildSlice evBuild fillL fillAt fillOne overL repL newSlice mulPlace zcT zerosIf
@[go_sem] theorem viewS_own (h : Hp) (a : Bool) (sz : Nat) (ad : Addr) (n c : Nat) : viewS h a sz (.slice (some ad) n c) = (match Nat.ble n c with | true => chopO a sz n (firstS ad h (n * sz)) | false => none) := rfl
@[go_sem] theorem chopO_some (a : Bool) (sz n : Nat) (cs : List Value) : chopO a sz n (some cs) = (match noIdL cs && fitB a sz cs with | true => some (fz (chop a sz n cs)) | false => none) := rfl
@[go_sem] theorem fitB_f (sz : Nat) (cs : List Value) : fitB false sz cs = (Nat.beq sz 1 && cellsV cs) := rfl
@[go_sem] theorem fitB_t (sz : Nat) (cs : List Value) : fitB true sz cs = Nat.ble 1 sz := rfl
@[go_sem] theorem chop_0 (a : Bool) (sz : Nat) (l : List Value) : chop a sz 0 l = [] := rfl
@[go_sem] theorem chop_f (sz n : Nat) (l : List Value) : chop false sz (n + 1) l = hd0 l :: chop false sz n (dropL sz l) := rfl
@[go_sem] theorem chop_t (sz n : Nat) (l : List Value) : chop true sz (n + 1) l = .agg ⟨takeL sz l⟩ :: chop true sz n (dropL sz l) := rfl
attribute [go_sem] firstS resCell evLoad loadSh evIndexArr idxArr
@[go_sem] theorem idxN_l (k n : Nat) : idxN (no_index (@OfNat.ofNat Int k instOfNat)) n = (match Nat.blt k n with | true => some k | false => none) := rfl
theorem sameVL_map {α : Type} {e : α → Value} (h : ∀ a, sameV (e a) (e a) = true) : ∀ l : List α, sameVL (l.map e) (l.map e) = true
 | [] => by simp [sameVL]
 | a :: l => by simp [sameVL, h, sameVL_map h l]
theorem sameV_fz (rows : List Value) : sameV (fz rows) (fz rows) = sameVL rows rows := by
 unfold fz
 rw [sameV]
 simp [sameVL]
@[go_sem] theorem sameV_fzm {α : Type} (e : α → Value) (l : List α) : sameV (fz (l.map e)) (fz (l.map e)) = sameVL (l.map e) (l.map e) := sameV_fz _
@[go_sem] theorem sameVL_u8 (l : List UInt8) : sameVL (l.map eU8) (l.map eU8) = true := sameVL_map (fun a => sameV_int _ _) l
@[go_sem] theorem sameVL_eI (l : List Int) : sameVL (l.map eI) (l.map eI) = true := sameVL_map (fun a => sameV_int _ _) l
@[go_sem] theorem evSliceV_ptr (a : Addr) (P : Program) (t : TypeId) (lo hi mx : Option Operand) (tm : Tr Value) (h : Hp) (id : Nat) : evSliceV (.pointer (some a)) P t lo hi mx tm h id = (match arrT P t with | some p => sliceArr a p.1 p.2.2 lo hi mx tm | none => .no) := rfl
@[go_sem] theorem evSliceV_str (s : ByteArray) (P : Program) (t : TypeId) (lo hi mx : Option Operand) (tm : Tr Value) (h : Hp) (id : Nat) : evSliceV (.string s) P t lo hi mx tm h id = (match isStrT P t, someO mx with | true, false => sliceStr s lo hi tm | _, _ => .no) := rfl
@[go_sem] theorem evSliceV_own (a : Addr) (len c : Nat) (P : Program) (t : TypeId) (lo hi mx : Option Operand) (tm : Tr Value) (h : Hp) (id : Nat) : evSliceV (.slice (some a) len c) P t lo hi mx tm h id = (match sliceT P t with | some p => sliceSl a len c p.2.2 lo hi mx tm h id | none => .no) := rfl
@[go_sem] theorem evSliceV_fz (rows : List Value) (P : Program) (t : TypeId) (lo hi mx : Option Operand) (tm : Tr Value) (h : Hp) (id : Nat) : evSliceV (fz rows) P t lo hi mx tm h id = (match sliceT P t with | some p => sliceFz p.2.2 (someO mx) (some rows) lo hi tm | none => .no) := rfl
attribute [go_sem] sliceArr boundO cutExact
@[go_sem] theorem evConvert_back (v : Value) (h : Hp) (id : Nat) : evConvert .back v h id = cvBack v h := rfl
@[go_sem] theorem cvBack_fz (rows : List Value) (h : Hp) : cvBack (fz rows) h = strOf (some rows) := rfl
@[go_sem] theorem evConvert_str (s : ByteArray) (h : Hp) (id : Nat) : evConvert .str (.string s) h id = .val (.string s) := rfl
theorem eqB_dec (s t : ByteArray) : eqB s.data.toList t.data.toList = decide (s = t) := by
 rw [beqB]
 by_cases h : s = t
 ·subst h; simp
 ·have : ¬ s.data = t.data := fun he => h (ByteArray.ext he)
  simp [h, this]
@[go_sem] theorem bin_str_eql (s t : ByteArray) (P : Program) (y : TypeId) (ox oy : Operand) : evBin (.string s) (.string t) { P, op := .eql, t := y, ox, oy } = .val (.bool (decide (s = t))) := by
 show orL (L.val (.bool (eqB s.data.toList t.data.toList))) _ = _
 rw [eqB_dec]; rfl
@[go_sem] theorem bin_str_neq (s t : ByteArray) (P : Program) (y : TypeId) (ox oy : Operand) : evBin (.string s) (.string t) { P, op := .neq, t := y, ox, oy } = .val (.bool (!decide (s = t))) := by
 show orL (L.val (.bool (nb (eqB s.data.toList t.data.toList)))) _ = _
 rw [nb_eq, eqB_dec]; rfl
noncomputable def noBody (P : Program) (g : FuncId) : Bool := match fnAt P g with
 | some fn => (match fn.body with | none => true | some _ => false)
 | none => false
noncomputable def extH (e : Option Ext) (args : List Value) (h : Hp) (nx : Nat) : H := match e with
 | some e => evExtH e args h nx
 | none => .no "" ""
theorem callN_ext {P : Program} {X : List (Nat × Ext)} {Z : List (Nat × FzC)} {fuel d g : Nat} {args : List Value} {h : Hp} {nx : Nat} (hn : noBody P g = true) (hx : (extT X g).isSome = true) : callN P X Z fuel d (fnI P g) g args h nx = extH (extT X g) args h nx := by
 rw [← callN_eq]
 unfold noBody at hn
 cases hf : fnAt P g with
 | none => rw [hf] at hn; cases hn
 | some fn =>
  rw [hf] at hn
  simp only at hn
  cases hb : fn.body with
  | some c => rw [hb] at hn; cases hn
  | none =>
   show (cFn2 (envZ P X Z) g fn fn.body).f _ args h nx = _
   rw [hb]
   show (cExt (extT X g) fn.name).f _ args h nx = _
   cases he : extT X g with
   | none => rw [he] at hx; cases hx
   | some e => rfl
@[go_sem] theorem extH_some (e : Ext) (args : List Value) (h : Hp) (nx : Nat) : extH (some e) args h nx = evExtH e args h nx := rfl
@[go_sem] theorem evExtH_cmp (a b : Value) (h : Hp) (nx : Nat) : evExtH .compare [a, b] h nx = extLight (extCmp (bytesOf a h) (bytesOf b h)) h nx := rfl
@[go_sem] theorem extLight_val (v : Value) (h : Hp) (nx : Nat) : extLight (.val v) h nx = .ok v h nx := rfl
@[go_sem] theorem extCmp_some (a b : List UInt8) : extCmp (some a) (some b) = .val (.int .i64 (cmpB a b)) := rfl
@[go_sem] theorem byteL_map (l : List UInt8) : byteL (l.map eU8) = some l := by
 induction l with
 | nil => rfl
 | cons b l ih => rw [List.map_cons]; unfold byteL; simp [ih, eU8, byteO]
@[go_sem] theorem strOf_map (l : List UInt8) : strOf (some (l.map eU8)) = .val (.string ⟨⟨l⟩⟩) := by
 unfold strOf
 simp [byteL_map]
@[go_sem] theorem bytesOf_fz (rows : List Value) (h : Hp) : bytesOf (fz rows) h = byteL rows := rfl
noncomputable def F1p {α : Type} (ea : α → Value) (p : α → Bool) (f : α → Value) : List Value → Option Value
 | [v] => (dec ea v).bind fun a => match p a with | true => some (f a) | false => none
 | _ => none
noncomputable def F2p {α β : Type} (ea : α → Value) (eb : β → Value) (p : α → β → Bool) (f : α → β → Value) : List Value → Option Value
 | [v, w] => (dec ea v).bind fun a => (dec eb w).bind fun b => match p a b with | true => some (f a b) | false => none
 | _ => none
@[go_sem] theorem F1p_eq {α : Type} (ea : α → Value) (p : α → Bool) (f : α → Value) (v : Value) : F1p ea p f [v] = (dec ea v).bind fun a => match p a with | true => some (f a) | false => none := rfl
@[go_sem] theorem F2p_eq {α β : Type} (ea : α → Value) (eb : β → Value) (p : α → β → Bool) (f : α → β → Value) (v w : Value) : F2p ea eb p f [v, w] = (dec ea v).bind fun a => (dec eb w).bind fun b => match p a b with | true => some (f a b) | false => none := rfl
theorem F1p_ok {P : Program} {g : FuncId} {α : Type} {ea : α → Value} {p : α → Bool} {f : α → Value} (h : ∀ a, p a = true → FnOk P g [ea a] (f a)) (us : List Value) (u : Value) (hu : F1p ea p f us = some u) : FnOk P g us u := by
 unfold F1p at hu
 split at hu
 ·rename_i v
  cases hd : dec ea v with
  | none => rw [hd] at hu; cases hu
  | some a =>
   rw [hd] at hu
   simp only [Option.bind_some] at hu
   split at hu
   ·rename_i hp; cases hu; rw [dec_some hd]; exact h a hp
   ·cases hu
 ·cases hu
theorem F2p_ok {P : Program} {g : FuncId} {α β : Type} {ea : α → Value} {eb : β → Value} {p : α → β → Bool} {f : α → β → Value} (h : ∀ a b, p a b = true → FnOk P g [ea a, eb b] (f a b)) (us : List Value) (u : Value) (hu : F2p ea eb p f us = some u) : FnOk P g us u := by
 unfold F2p at hu
 split at hu
 ·rename_i v w
  cases hd : dec ea v with
  | none => rw [hd] at hu; cases hu
  | some a =>
   cases he : dec eb w with
   | none => rw [hd, he] at hu; cases hu
   | some b =>
    rw [hd, he] at hu
    simp only [Option.bind_some] at hu
    split at hu
    ·rename_i hp; cases hu; rw [dec_some hd, dec_some he]; exact h a b hp
    ·cases hu
 ·cases hu
end Go.Proofs.YtpnaenbpffhjfaaGreatDoor.Ev

namespace Go.Proofs.YtpnaenbpffhjfaaGreatDoor.Ev
theorem takeL_all (l : List Value) (n : Nat) (h : n = l.length) : takeL n l = l := by
 subst h
 induction l with
 | nil => rfl
 | cons x l ih => show x :: takeL l.length l = _; rw [ih]
theorem rowsAre_ok {rows : List Value} {sz : Nat} (h : ∀ r ∈ rows, (cellsL r).length = sz) : rowsAre sz rows = true := by
 unfold rowsAre
 rw [List.all_eq_true]
 intro r hr
 exact beq_true.2 (h r hr)
theorem srcO_fz {rows : List Value} {sz : Nat} (h : ∀ r ∈ rows, (cellsL r).length = sz) (hp : Hp) : srcO (fz rows) hp sz = some (rows.length, flatC rows) := by
 show pairO rows.length (firstFz (some rows) sz rows.length) = _
 have : firstFz (some rows) sz rows.length = some (takeL (rows.length * sz) (flatC rows)) := by
  show (match rowsAre sz rows with | true => some (takeL (rows.length * sz) (flatC rows)) | false => none) = _
  rw [rowsAre_ok h]
 rw [this]
 show pairO rows.length (some (takeL (rows.length * sz) (flatC rows))) = _
 rw [takeL_all _ _ (flatC_length h).symm]; rfl
variable {P : Program} {t : TypeId} {elem sz bytes : Nat} {agg : Bool} {z : List Value} {rows : List Value} {h : Hp} {nx b off : Nat}
theorem app_0 (hs : sliceT P t = some (elem, agg, sz)) (hi : isIntD (P.underlying t) = some false) (hb : bytesT P elem = some bytes) (hz : zcT P elem sz = some z) :
  evAppend P [t, t] [.slice (some ⟨b, off, none⟩) 0 0, fz []] h nx = .ok (.slice (some ⟨b, off, none⟩) 0 0) h nx := by
 unfold evAppend
 simp only [hs]
 unfold appS appSrc
 simp only [hi, hb, hz, srcO_fz (rows := []) (sz := sz) (by simp)]
 rfl
theorem app_1 (hs : sliceT P t = some (elem, agg, sz)) (hi : isIntD (P.underlying t) = some false) (hb : bytesT P elem = some bytes) (hz : zcT P elem sz = some z) (hr : ∀ r ∈ rows, (cellsL r).length = sz) (h0 : rows ≠ [])
  (hm : rows.length * bytes ≤ 100000000) (hl : rows.length ≤ 100000000) (h1 : 1 ≤ sz) :
  evAppend P [t, t] [.slice (some ⟨b, off, none⟩) 0 0, fz rows] h nx = freshA h nx elem sz rows.length (flatC rows) := by
 unfold evAppend
 simp only [hs]
 unfold appS appSrc
 simp only [hi, hb, hz, srcO_fz hr]
 show appN (some ⟨b, off, none⟩) 0 0 h nx elem sz bytes (rows.length, flatC rows) = _
 have hn : 0 < rows.length := List.length_pos_iff.2 h0
 unfold appN
 simp only [beq_false.2 (show rows.length ≠ 0 by omega), Nat.zero_add, ble_true.2 hm, ble_true.2 hl, ble_true.2 h1, Bool.and_self]
 show appExact h nx elem sz ⟨b, off, none⟩ 0 0 rows.length (flatC rows) = _
 unfold appExact
 have : Nat.ble (0 + rows.length) 0 = false := by
  cases hb : Nat.ble (0 + rows.length) 0 with
  | false => rfl
  | true => have := ble_true.1 hb; omega
 rw [this]
 show freshO (firstS ⟨b, off, none⟩ h (0 * sz)) h nx elem sz (0 + rows.length) (flatC rows) = _
 rw [Nat.zero_mul, Nat.zero_add]
 rfl
theorem get_rowM {T : Nat} {cs : List Value} {k : Nat} (hk : k < cs.length) : (rowM true T cs).get k = cs[k]? := by
 show ((Tr.ofL cs).set cs.length _).get k = _
 rw [Tr.get_set_ne _ _ (by omega), Tr.get_ofL]
theorem getMany_some {t : Tr Value} : ∀ (n i : Nat) (l : List Value), l.length = n → (∀ k, k < n → t.get (i + k) = l[k]?) → t.getMany n i = some l
 | 0, i, l, hl, _ => by
  have : l = [] := List.length_eq_zero_iff.1 hl
  subst this; rfl
 | n + 1, i, [], hl, _ => by cases hl
 | n + 1, i, x :: l, hl, hg => by
  rw [getMany_s]
  have h0 := hg 0 (by omega)
  simp only [Nat.add_zero, List.getElem?_cons_zero] at h0
  rw [h0]
  simp only
  rw [getMany_some n (i + 1) l (by simpa using hl) fun k hk => by have := hg (k + 1) (by omega); rw [List.getElem?_cons_succ] at this; rw [← this]; congr 1; omega]
theorem load_fresh {cs : List Value} {T : Nat} : loadC ((h.set nx (.fam (nx + 1) (nx + 1))).set (nx + 1) (.cells (rowM true T cs) cs.length nx)) (nx + 1) 0 cs.length = some cs := by
 unfold loadC
 rw [Tr.get_set_eq]
 show loadN (rowM true T cs) 0 cs.length (Nat.ble (0 + cs.length) cs.length && liveB _ (nx + 1) nx) = _
 have hlv : liveB ((h.set nx (.fam (nx + 1) (nx + 1))).set (nx + 1) (.cells (rowM true T cs) cs.length nx)) (nx + 1) nx = true := by
  by_cases h0 : nx = 0
  ·subst h0; rfl
  ·rw [liveB_ne h0, Tr.get_set_ne _ _ (by omega), Tr.get_set_eq]
   show Nat.ble (nx + 1) (nx + 1) = true
   exact ble_true.2 (Nat.le_refl _)
 rw [hlv, ble_true.2 (by omega)]
 show (rowM true T cs).getMany cs.length 0 = _
 exact getMany_some _ _ _ rfl fun k hk => by rw [Nat.zero_add]; exact get_rowM hk
theorem noIdL_append : ∀ {a b : List Value}, noIdL (a ++ b) = (noIdL a && noIdL b)
 | [], b => by simp [noIdL]
 | x :: a, b => by simp [noIdL, noIdL_append, Bool.and_assoc]
theorem noIdL_flatC {rows : List Value} (h : ∀ r ∈ rows, noIdL (cellsL r) = true) : noIdL (flatC rows) = true := by
 induction rows with
 | nil => rfl
 | cons x l ih =>
  have := ih fun r hr => h r (List.mem_cons_of_mem _ hr)
  unfold flatC at this ⊢
  rw [List.flatMap_cons, noIdL_append, this, h x (List.mem_cons_self ..)]; rfl
theorem chop_one {rows : List Value} (h : ∀ r ∈ rows, cellsL r = [r]) : flatC rows = rows ∧ chop false 1 rows.length rows = rows := by
 induction rows with
 | nil => exact ⟨rfl, rfl⟩
 | cons x l ih =>
  obtain ⟨h1, h2⟩ := ih fun r hr => h r (List.mem_cons_of_mem _ hr)
  constructor
  ·unfold flatC at h1 ⊢
   rw [List.flatMap_cons, h x (List.mem_cons_self ..), h1]; rfl
  ·show hd0 (x :: l) :: chop false 1 l.length (dropL 1 (x :: l)) = _
   have : dropL 1 (x :: l) = l := by cases l <;> rfl
   rw [this, h2]; rfl
theorem dropL_app : ∀ (a b : List Value), dropL a.length (a ++ b) = b
 | [], b => by cases b <;> rfl
 | x :: a, b => by show dropL a.length (a ++ b) = b; exact dropL_app a b
theorem takeL_app : ∀ (a b : List Value), takeL a.length (a ++ b) = a
 | [], b => by cases b <;> rfl
 | x :: a, b => by show x :: takeL a.length (a ++ b) = _; rw [takeL_app a b]
theorem chop_agg {sz : Nat} {rows : List Value} (h : ∀ r ∈ rows, r = .agg ⟨cellsL r⟩ ∧ (cellsL r).length = sz) : chop true sz rows.length (flatC rows) = rows := by
 induction rows with
 | nil => rfl
 | cons x l ih =>
  have h2 := ih fun r hr => h r (List.mem_cons_of_mem _ hr)
  obtain ⟨hx, hl⟩ := h x (List.mem_cons_self ..)
  have hf : flatC (x :: l) = cellsL x ++ flatC l := by unfold flatC; rw [List.flatMap_cons]
  rw [hf]
  show Value.agg ⟨takeL sz (cellsL x ++ flatC l)⟩ :: chop true sz l.length (dropL sz (cellsL x ++ flatC l)) = _
  rw [← hl, takeL_app, dropL_app, ← hx, hl, h2]
theorem view_fresh {e T : Nat} {a : Bool} (hsz : (flatC rows).length = rows.length * sz) (hn : noIdL (flatC rows) = true) (hf : fitB a sz (flatC rows) = true) (hc : chop a sz rows.length (flatC rows) = rows) (h0 : rows.length * sz ≠ 0) :
  viewS ((h.set nx (.fam (nx + 1) (nx + 1))).set (nx + 1) (.cells (rowM true T (flatC rows)) (flatC rows).length nx)) a sz (.slice (some ⟨nx + 1, 0, some e⟩) rows.length rows.length) = some (fz rows) := by
 rw [viewS_own, ble_true.2 (Nat.le_refl _)]
 show chopO a sz rows.length (firstS ⟨nx + 1, 0, some e⟩ _ (rows.length * sz)) = _
 unfold firstS
 rw [beq_false.2 h0, ← hsz]
 show chopO a sz rows.length (loadC _ (nx + 1) 0 (flatC rows).length) = _
 rw [load_fresh, chopO_some, hn, hf]
 show some (fz (chop a sz rows.length (flatC rows))) = _
 rw [hc]
theorem view_empty {a : Addr} {ag : Bool} (hf : fitB ag sz [] = true) : viewS h ag sz (.slice (some a) 0 0) = some (fz []) := by
 rw [viewS_own]
 show chopO ag sz 0 (firstS a h (0 * sz)) = _
 rw [Nat.zero_mul]
 show chopO ag sz 0 (some []) = _
 rw [chopO_some, hf]; rfl
@[go_sem] theorem getMany_mark (cs : List Value) (v : Value) (n m : Nat) (h1 : n = cs.length) (h2 : m = cs.length) : ((Tr.ofL cs).set n v).getMany m 0 = some cs := by
 subst h1 h2
 exact getMany_some _ _ _ rfl fun k hk => by rw [Nat.zero_add, Tr.get_set_ne _ _ (by omega), Tr.get_ofL]
@[go_sem] theorem heavyB_append (P : Program) (ts : List TypeId) (xs : List Value) (h : Hp) (nx : Nat) : heavyB .append P ts xs h nx = evAppend P ts xs h nx := rfl
attribute [go_sem] freshA sliceNew famO
@[go_sem] theorem liveB_fam (h : Hp) (b root : Nat) (h0 : root ≠ 0) : liveB h b root = (match famO (h.get root) with | some f => Nat.ble f.2 b | none => false) := liveB_ne h0
theorem noIdL_map {α : Type} {e : α → Value} (h : ∀ a, noId (e a) = true) : ∀ l : List α, noIdL (l.map e) = true
 | [] => rfl
 | a :: l => by simp [noIdL, h a, noIdL_map h l]
theorem cellsV_map {α : Type} {e : α → Value} (h : ∀ a, cellV (e a) = true) : ∀ l : List α, cellsV (l.map e) = true
 | [] => rfl
 | a :: l => by simp [cellsV, h a, cellsV_map h l]
@[go_sem] theorem noIdL_u8 (l : List UInt8) : noIdL (l.map eU8) = true := noIdL_map (fun _ => rfl) l
@[go_sem] theorem cellsV_u8 (l : List UInt8) : cellsV (l.map eU8) = true := cellsV_map (fun _ => rfl) l
theorem dec_list {α : Type} {e : α → Value} (inj : ∀ a b, e a = e b → a = b) (l : List α) : dec (eL e) (fz (l.map e)) = some l := dec_enc (eL_inj inj) l
end Go.Proofs.YtpnaenbpffhjfaaGreatDoor.Ev

namespace Go.Proofs.YtpnaenbpffhjfaaGreatDoor.Ev
open Go.Op
theorem pureRun_bind {α β : Type} (P : Program) (s : Sem α) (f : α → Sem β) (x : α) (h : pureRun P s = some x) : pureRun P (s >>= f) = pureRun P (f x) := by
 induction s with
 | pure a => cases h; rfl
 | program k ih => exact ih P h
 | _ => cases h
theorem eq_struct (P : Program) (d : Nat) (t : TypeId) (fs : List Field) (xs ys : Array Value) (hu : P.underlying t = some (.struct ⟨fs⟩)) (hs : P.stoodInHeld t = false) (g : Field → Bool)
 (h : ∀ f ∈ fs, f.name ≠ "_" ∧ ∃ x y, pureRun P (part f.type xs f.offset) = some x ∧ pureRun P (part f.type ys f.offset) = some y ∧ pureRun P (equalIn d f.type x y) = some (g f)) :
 pureRun P (equalIn (d + 1) t (.agg xs) (.agg ys)) = some (fs.all g) := by
 unfold equalIn
 rw [pureRun_bind P _ _ (.struct ⟨fs⟩)]
 ·rw [pureRun_bind P _ _ P rfl]
  rw [hs]
  simp only [Bool.false_eq_true, if_false]
  have key : ∀ l : List Field, (∀ f ∈ l, f.name ≠ "_" ∧ ∃ x y, pureRun P (part f.type xs f.offset) = some x ∧ pureRun P (part f.type ys f.offset) = some y ∧ pureRun P (equalIn d f.type x y) = some (g f)) →
    pureRun P (forIn l ((none : Option Bool), ()) (fun (f : Field) (__s : Option Bool × Unit) =>
      if f.name ≠ "_" then do
       let a ← part f.type xs f.offset
       let b ← part f.type ys f.offset
       let c ← equalIn d f.type a b
       if (!c) = true then pure (ForInStep.done (some false, ())) else pure (ForInStep.yield (none, ()))
      else pure (ForInStep.yield (none, ())))) = some (if l.all g = true then (none, ()) else (some false, ())) := by
   intro l
   induction l with
   | nil => intro _; rfl
   | cons f l ih =>
    intro h
    obtain ⟨hn, x, y, h1, h2, h3⟩ := h f (List.mem_cons_self ..)
    have ih := ih fun f hf => h f (List.mem_cons_of_mem _ hf)
    rw [List.forIn_cons]
    rw [if_pos hn]
    cases hg : g f with
    | true =>
     rw [pureRun_bind P _ _ (ForInStep.yield (none, ()))]
     ·rw [ih]; simp [hg]
     ·rw [pureRun_bind P _ _ x h1, pureRun_bind P _ _ y h2, pureRun_bind P _ _ (g f) h3, hg]; rfl
    | false =>
     rw [pureRun_bind P _ _ (ForInStep.done (some false, ()))]
     ·simp [hg]; rfl
     ·rw [pureRun_bind P _ _ x h1, pureRun_bind P _ _ y h2, pureRun_bind P _ _ (g f) h3, hg]; rfl
  have k := key fs h
  rw [← List.forIn_toArray] at k
  rw [pureRun_bind P _ _ _ k]
  cases fs.all g <;> rfl
 ·show pureRun P (match P.underlying t with | some d => (pure d : Sem TypeDesc) | none => _) = _
  rw [hu]; rfl
theorem bin_agg_eql {P : Program} {t : TypeId} {ox oy : Operand} {xs ys : List Value} {r : Bool} (hn : nilT P t = 0) (hf : flat (.agg ⟨xs⟩) = true) (hf2 : flat (.agg ⟨ys⟩) = true) (hg : P.eqGuardType P.depth t = false) (he : pureRun P (equalIn 10000 t (.agg ⟨xs⟩) (.agg ⟨ys⟩)) = some r) :
  evBin (.agg ⟨xs⟩) (.agg ⟨ys⟩) { P, op := .eql, t, ox, oy } = .val (.bool r) := by
 have hs : slow { P, op := .eql, t, ox, oy } (.agg ⟨xs⟩) (.agg ⟨ys⟩) = .val (.bool r) := by
  unfold slow
  rw [hf, hf2]
  show lvF (pureRun P (do Go.eqGuard .eql t ox oy (.agg ⟨xs⟩) (.agg ⟨ys⟩); Go.binOp .eql t (.agg ⟨xs⟩) (.agg ⟨ys⟩))) = _
  rw [pureRun_bind P _ _ ()]
  ·have : pureRun P (Go.binOp .eql t (.agg ⟨xs⟩) (.agg ⟨ys⟩)) = some (.bool r) := by
    show pureRun P (do pure (Value.bool (← Op.equal t (.agg ⟨xs⟩) (.agg ⟨ys⟩)))) = _
    rw [pureRun_bind P (Op.equal t (.agg ⟨xs⟩) (.agg ⟨ys⟩)) _ r he]; rfl
   rw [this]; rfl
  ·unfold Go.eqGuard
   simp only [Bool.not_true, Bool.false_eq_true, if_false, ↓reduceIte]
   rw [pureRun_bind P _ _ P rfl, pureRun_bind P _ _ P rfl, hg]
   rfl
 show orL (binNil (.agg ⟨xs⟩) (.agg ⟨ys⟩) { P, op := .eql, t, ox, oy }) _ = _
 have hb : binNil (.agg ⟨xs⟩) (.agg ⟨ys⟩) { P, op := .eql, t, ox, oy } = .val (.bool r) := by
  unfold binNil
  show (match oneNil (nilK (nilT P t) (.agg ⟨xs⟩)) (nilK (nilT P t) (.agg ⟨ys⟩)) with | true => eqL .eql false | false => binPt (.agg ⟨xs⟩) (.agg ⟨ys⟩) { P, op := .eql, t, ox, oy }) = _
  rw [hn]
  exact hs
 rw [hb]; rfl
theorem bin_agg_neq {P : Program} {t : TypeId} {ox oy : Operand} {xs ys : List Value} {r : Bool} (hn : nilT P t = 0) (hf : flat (.agg ⟨xs⟩) = true) (hf2 : flat (.agg ⟨ys⟩) = true) (hg : P.eqGuardType P.depth t = false) (he : pureRun P (equalIn 10000 t (.agg ⟨xs⟩) (.agg ⟨ys⟩)) = some r) :
  evBin (.agg ⟨xs⟩) (.agg ⟨ys⟩) { P, op := .neq, t, ox, oy } = .val (.bool (!r)) := by
 have hs : slow { P, op := .neq, t, ox, oy } (.agg ⟨xs⟩) (.agg ⟨ys⟩) = .val (.bool (!r)) := by
  unfold slow
  rw [hf, hf2]
  show lvF (pureRun P (do Go.eqGuard .neq t ox oy (.agg ⟨xs⟩) (.agg ⟨ys⟩); Go.binOp .neq t (.agg ⟨xs⟩) (.agg ⟨ys⟩))) = _
  rw [pureRun_bind P _ _ ()]
  ·have : pureRun P (Go.binOp .neq t (.agg ⟨xs⟩) (.agg ⟨ys⟩)) = some (.bool (!r)) := by
    show pureRun P (do pure (Value.bool (!(← Op.equal t (.agg ⟨xs⟩) (.agg ⟨ys⟩))))) = _
    rw [pureRun_bind P (Op.equal t (.agg ⟨xs⟩) (.agg ⟨ys⟩)) _ r he]; rfl
   rw [this]; rfl
  ·unfold Go.eqGuard
   simp only [Bool.not_true, Bool.false_eq_true, if_false, ↓reduceIte]
   rw [pureRun_bind P _ _ P rfl, pureRun_bind P _ _ P rfl, hg]
   rfl
 show orL (binNil (.agg ⟨xs⟩) (.agg ⟨ys⟩) { P, op := .neq, t, ox, oy }) _ = _
 have hb : binNil (.agg ⟨xs⟩) (.agg ⟨ys⟩) { P, op := .neq, t, ox, oy } = .val (.bool (!r)) := by
  unfold binNil
  show (match oneNil (nilK (nilT P t) (.agg ⟨xs⟩)) (nilK (nilT P t) (.agg ⟨ys⟩)) with | true => eqL .neq false | false => binPt (.agg ⟨xs⟩) (.agg ⟨ys⟩) { P, op := .neq, t, ox, oy }) = _
  rw [hn]
  exact hs
 rw [hb]; rfl
theorem eq_int {P : Program} {ti : TypeId} (hu : P.underlying ti = some (.int .i64)) (d : Nat) (a b : Int) : pureRun P (equalIn (d + 1) ti (.int .i64 a) (.int .i64 b)) = some (a == b) := by
 unfold equalIn
 rw [pureRun_bind P _ _ (.int .i64)]
 ·rfl
 ·show pureRun P (match P.underlying ti with | some d => (pure d : Sem TypeDesc) | none => _) = _
  rw [hu]; rfl
def isStr (o : Option TypeDesc) (n : List (String × Nat × Nat)) : Bool := match o with
 | some (.struct fs) => fs.toList.map (fun f => (f.name, f.type, f.offset)) == n
 | _ => false
theorem eq_ints {P : Program} {t ti : TypeId} {ns : List (String × Nat × Nat)} (hu : isStr (P.underlying t) ns = true) (hst : P.stoodInHeld t = false) (hi : P.underlying ti = some (.int .i64)) (d : Nat) (xs ys : List Value) (F : Nat → Bool)
  (hns : ∀ n ∈ ns, n.1 ≠ "_" ∧ n.2.1 = ti ∧ ∃ x y : Int, pureRun P (part ti ⟨xs⟩ n.2.2) = some (.int .i64 x) ∧ pureRun P (part ti ⟨ys⟩ n.2.2) = some (.int .i64 y) ∧ F n.2.2 = (x == y)) :
  pureRun P (equalIn (d + 2) t (.agg ⟨xs⟩) (.agg ⟨ys⟩)) = some (ns.all fun n => F n.2.2) := by
 unfold isStr at hu
 split at hu
 ·rename_i fs he
  have hm : fs.toList.map (fun f => (f.name, f.type, f.offset)) = ns := by simpa using hu
  have := eq_struct P (d + 1) t fs.toList ⟨xs⟩ ⟨ys⟩ (by rw [he]) hst (fun f => F f.offset) (fun f hf => by
   obtain ⟨h1, h2, x, y, h3, h4, h5⟩ := hns (f.name, f.type, f.offset) (by rw [← hm]; exact List.mem_map_of_mem hf)
   refine ⟨h1, _, _, by rw [show f.type = ti from h2]; exact h3, by rw [show f.type = ti from h2]; exact h4, ?_⟩
   rw [show f.type = ti from h2, eq_int hi, show F f.offset = (x == y) from h5])
  rw [this, ← hm, List.all_map]; rfl
 ·cases hu
end Go.Proofs.YtpnaenbpffhjfaaGreatDoor.Ev

namespace Go.Proofs.YtpnaenbpffhjfaaGreatDoor.Ev
def subB (s : ByteArray) (l h : Nat) : ByteArray := ⟨⟨takeL (h - l) (dropL l s.data.toList)⟩⟩
@[go_sem] theorem subStr_subB (s : ByteArray) (l h : Nat) : subStr s l h = .string (subB s l h) := rfl
@[go_sem] theorem leN_nat (n y : Nat) : leN (n : Int) y = if n ≤ y then some n else none := by
 show (match Nat.ble n y with | true => some n | false => none) = _
 rw [ble_dec]
 by_cases h : n ≤ y
 ·simp [h]
 ·simp [h]
@[go_sem] theorem leN_0 (y : Nat) : leN 0 y = some 0 := by
 rw [show (0 : Int) = ((0 : Nat) : Int) from rfl, leN_nat]; simp
@[go_sem] theorem leN_1 (y : Nat) : leN 1 y = if 1 ≤ y then some 1 else none := leN_nat 1 y
@[go_sem] theorem idxStr_nat (s : ByteArray) (n : Nat) : idxStr s (n : Int) = match s.data.toList[n]? with | some b => .val (byteV b) | none => .no := by
 show (match nth s.data.toList n with | some b => _ | none => _) = _
 rw [nth_get]
attribute [go_sem] sliceStr boundV byteV
theorem subB_pre (s p : ByteArray) : (lenB p ≤ lenB s ∧ subB s 0 (lenB p) = p) ↔ p.data.toList <+: s.data.toList := by
 unfold subB lenB
 rw [takeL_eq, dropL_eq]
 constructor
 ·rintro ⟨h1, h2⟩
  have := congrArg (fun x : ByteArray => x.data.toList) h2
  simp at this
  exact List.prefix_iff_eq_take.2 (by simpa using this.symm)
 ·intro h
  refine ⟨h.length_le, ?_⟩
  have := List.prefix_iff_eq_take.1 h
  apply bytes_eq'
  simpa using this.symm
@[go_sem] theorem viewP_fp (h : Hp) (n : Nat) (cs : List Value) : viewP h n (fp cs) = some (fp cs) := rfl
@[go_sem] theorem viewP_pt (h : Hp) (n : Nat) (ad : Addr) : viewP h n (.pointer (some ad)) = viewC (loadC h ad.block ad.off n) := rfl
attribute [go_sem] viewC viewPL funS viewF evMakeFunc
@[go_sem] theorem noId_fp (cs : List Value) : noId (fp cs) = true := rfl
@[go_sem] theorem flat_fp (cs : List Value) : flat (fp cs) = false := rfl
@[go_sem] theorem fold_max (k : IntKind) (a b : Int) : foldA max2 [.int k a, .int k b] = .val (.int k (if b ≤ a then a else b)) := by
 show (match some (match leI b a with | true => Value.int k a | false => Value.int k b) with | some z => foldO max2 [] z | none => .no) = _
 rw [leI_eq]
 by_cases h : b ≤ a <;> simp [h, foldO]
@[go_sem] theorem fold_min (k : IntKind) (a b : Int) : foldA min2 [.int k a, .int k b] = .val (.int k (if a ≤ b then a else b)) := by
 show (match some (match leI a b with | true => Value.int k a | false => Value.int k b) with | some z => foldO min2 [] z | none => .no) = _
 rw [leI_eq]
 by_cases h : a ≤ b <;> simp [h, foldO]
theorem getMany_ofL {cs : List Value} {n : Nat} (h : cs.length = n) : (Tr.ofL cs).getMany n 0 = some cs := getMany_some n 0 cs h fun k hk => by rw [Nat.zero_add]; exact Tr.get_ofL cs k
theorem getMany_setMany {cs : List Value} {n : Nat} (h : cs.length = n) (t : Tr Value) : (Tr.setMany cs t 0).getMany n 0 = some cs := getMany_some n 0 cs h fun k hk => by
 rw [Nat.zero_add, Tr.get_setMany, dif_pos ⟨Nat.zero_le _, by omega⟩, List.getElem?_eq_getElem (by omega)]
 simp
@[go_sem] theorem idx_own (a : Addr) (len c sz k : Nat) : idxSl (.slice (some a) len c) sz (k : Int) = if k < len then .val (.pointer (some ⟨a.block, a.off + k * sz, none⟩)) else .no := by
 show idxA { block := a.block, off := a.off } len sz (k : Int) = _
 show (match (match Nat.blt k len with | true => some k | false => none) with | some k => _ | none => _) = _
 rw [blt_dec]
 by_cases h : k < len
 ·simp [h]; rfl
 ·simp [h]
@[go_sem] theorem idx_own0 (a : Addr) (len c sz : Nat) : idxSl (.slice (some a) len c) sz 0 = if 0 < len then .val (.pointer (some ⟨a.block, a.off + 0 * sz, none⟩)) else .no := idx_own a len c sz 0
@[go_sem] theorem idx_own1 (a : Addr) (len c sz : Nat) : idxSl (.slice (some a) len c) sz 1 = if 1 < len then .val (.pointer (some ⟨a.block, a.off + 1 * sz, none⟩)) else .no := idx_own a len c sz 1
@[go_sem] theorem idx_own2 (a : Addr) (len c sz : Nat) : idxSl (.slice (some a) len c) sz 2 = if 2 < len then .val (.pointer (some ⟨a.block, a.off + 2 * sz, none⟩)) else .no := idx_own a len c sz 2
@[go_sem] theorem idx_own3 (a : Addr) (len c sz : Nat) : idxSl (.slice (some a) len c) sz 3 = if 3 < len then .val (.pointer (some ⟨a.block, a.off + 3 * sz, none⟩)) else .no := idx_own a len c sz 3
@[go_sem] theorem idx_own4 (a : Addr) (len c sz : Nat) : idxSl (.slice (some a) len c) sz 4 = if 4 < len then .val (.pointer (some ⟨a.block, a.off + 4 * sz, none⟩)) else .no := idx_own a len c sz 4
open Go.Op in
theorem eq_fields {P : Program} {t : TypeId} {ns : List (String × Nat × Nat)} (hu : isStr (P.underlying t) ns = true) (hst : P.stoodInHeld t = false) (d : Nat) (xs ys : List Value) (F : Nat → Bool)
  (hns : ∀ n ∈ ns, n.1 ≠ "_" ∧ ∃ x y : Value, pureRun P (part n.2.1 ⟨xs⟩ n.2.2) = some x ∧ pureRun P (part n.2.1 ⟨ys⟩ n.2.2) = some y ∧ pureRun P (equalIn d n.2.1 x y) = some (F n.2.2)) :
  pureRun P (equalIn (d + 1) t (.agg ⟨xs⟩) (.agg ⟨ys⟩)) = some (ns.all fun n => F n.2.2) := by
 unfold isStr at hu
 split at hu
 ·rename_i fs he
  have hm : fs.toList.map (fun f => (f.name, f.type, f.offset)) = ns := by simpa using hu
  have := eq_struct P d t fs.toList ⟨xs⟩ ⟨ys⟩ (by rw [he]) hst (fun f => F f.offset) (fun f hf => hns (f.name, f.type, f.offset) (by rw [← hm]; exact List.mem_map_of_mem hf))
  rw [this, ← hm, List.all_map]; rfl
 ·cases hu
end Go.Proofs.YtpnaenbpffhjfaaGreatDoor.Ev

namespace Go.Proofs.YtpnaenbpffhjfaaGreatDoor.Ev
section
variable {P : Program} {h : Hp} {lo nx sz T : Nat} {v : Value} {rows : List Value}
def OwnS (h : Hp) (lo nx sz T : Nat) (v : Value) (rows : List Value) : Prop := (rows = [] ∧ v = .slice none 0 0) ∨
 ∃ b root al, v = .slice (some ⟨b, 0, some sz⟩) rows.length rows.length ∧ rows ≠ [] ∧ h.get b = some (.cells (rowM true T (flatC rows)) (flatC rows).length root) ∧ h.get root = some (.fam b al) ∧ al ≤ b ∧ root ≠ 0 ∧ lo ≤ b ∧ lo ≤ root ∧ b < nx ∧ root < nx ∧ b ≠ root
theorem OwnS.nil : OwnS h lo nx sz T (.slice none 0 0) [] := .inl ⟨rfl, rfl⟩
theorem OwnS.over {h' : Hp} {nx' : Nat} (o : OwnS h lo nx sz T v rows) (hn : nx ≤ nx') (hh : ∀ k, lo ≤ k → k < nx → h'.get k = h.get k) : OwnS h' lo nx' sz T v rows := by
 rcases o with o | ⟨b, root, al, e, h0, g1, g2, g3, g4, l1, l2, l3, l4, g5⟩
 ·exact .inl o
 ·exact .inr ⟨b, root, al, e, h0, by rw [hh b l1 l3]; exact g1, by rw [hh root l2 l4]; exact g2, g3, g4, l1, l2, by omega, by omega, g5⟩
theorem load_own (o : OwnS h lo nx sz T v rows) (h0 : rows ≠ []) : ∃ b, v = .slice (some ⟨b, 0, some sz⟩) rows.length rows.length ∧ loadC h b 0 (flatC rows).length = some (flatC rows) := by
 rcases o with ⟨h1, _⟩ | ⟨b, root, al, e, _, g1, g2, g3, g4, l1, l2, l3, l4, g5⟩
 ·exact (h0 h1).elim
 ·refine ⟨b, e, ?_⟩
  unfold loadC
  rw [g1]
  show loadN (rowM true T (flatC rows)) 0 (flatC rows).length (Nat.ble (0 + (flatC rows).length) (flatC rows).length && liveB h b root) = _
  rw [liveB_ne g4, g2, Nat.zero_add, ble_true.2 (Nat.le_refl _)]
  show loadN _ _ _ (true && Nat.ble al b) = _
  rw [ble_true.2 g3]
  show (rowM true T (flatC rows)).getMany (flatC rows).length 0 = _
  exact getMany_mark (flatC rows) _ _ _ rfl rfl
theorem srcO_new {cs : List Value} (hr : cs.length = sz) (hz : 1 ≤ sz) : srcO (.slice (some ⟨nx, 0, none⟩) 1 1) (h.set nx (.cells (Tr.ofL cs) sz 0)) sz = some (1, cs) := by
 show pairO 1 (firstS ⟨nx, 0, none⟩ (h.set nx (.cells (Tr.ofL cs) sz 0)) (1 * sz)) = _
 unfold firstS
 rw [Nat.one_mul, beq_false.2 (by omega)]
 show pairO 1 (loadC (h.set nx (.cells (Tr.ofL cs) sz 0)) nx 0 sz) = _
 unfold loadC
 rw [Tr.get_set_eq]
 show pairO 1 (loadN (Tr.ofL cs) 0 sz (Nat.ble (0 + sz) sz && true)) = _
 rw [Nat.zero_add, ble_true.2 (Nat.le_refl _)]
 show pairO 1 ((Tr.ofL cs).getMany sz 0) = _
 rw [getMany_ofL hr]; rfl
theorem flatC_snoc (rows : List Value) (r : Value) : flatC (rows ++ [r]) = flatC rows ++ cellsL r := by
 unfold flatC
 rw [List.flatMap_append]; simp
theorem app_own {elem bytes : Nat} {agg : Bool} {t : TypeId} {z : List Value} {r : Value} (hs : sliceT P t = some (elem, agg, sz)) (hi : isIntD (P.underlying t) = some false) (hb : bytesT P elem = some bytes) (hz : zcT P elem sz = some z)
  (hr : (cellsL r).length = sz) (hcv : cellsV (cellsL r) = true) (hrows : ∀ r ∈ rows, (cellsL r).length = sz) (h1 : 1 ≤ sz) (hm : (rows.length + 1) * bytes ≤ 100000000) (hl : rows.length + 1 ≤ 100000000) (o : OwnS h lo nx sz elem v rows) (hlo : lo ≤ nx) :
  ∃ v' h' nx', evAppend P [t, t] [v, .slice (some ⟨nx, 0, none⟩) 1 1] (h.set nx (.cells (Tr.ofL (cellsL r)) sz 0)) (nx + 1) = .ok v' h' nx' ∧ nx + 1 ≤ nx' ∧ OwnS h' lo nx' sz elem v' (rows ++ [r]) ∧ ∀ k, k < lo → h'.get k = h.get k := by
 obtain ⟨H, hH⟩ : ∃ H, h.set nx (.cells (Tr.ofL (cellsL r)) sz 0) = H := ⟨_, rfl⟩
 have hsrc := srcO_new (h := h) (nx := nx) hr h1
 have hget : ∀ k, k ≠ nx → H.get k = h.get k := fun k hk => by rw [← hH, Tr.get_set_ne _ _ (fun e => hk e.symm)]
 rw [hH] at hsrc ⊢
 have start : ∀ base len, v = .slice base len len → len = rows.length → evAppend P [t, t] [v, .slice (some ⟨nx, 0, none⟩) 1 1] H (nx + 1) = appBase base H (nx + 1) elem sz len len 1 (cellsL r) := by
  intro base len e el
  subst e
  unfold evAppend
  simp only [hs]
  unfold appS appSrc
  simp only [hi, hb, hz, hsrc]
  show appN base len len H (nx + 1) elem sz bytes (1, cellsL r) = _
  unfold appN
  rw [el]
  show (match Nat.ble ((rows.length + 1) * bytes) 100000000 && (Nat.ble (rows.length + 1) 100000000 && Nat.ble 1 sz) with | true => _ | false => _) = _
  rw [ble_true.2 hm, ble_true.2 hl, ble_true.2 h1]; rfl
 rcases o with ⟨e0, e⟩ | ⟨b, root, al, e, h0, g1, g2, g3, g4, l1, l2, l3, l4, g5⟩
 ·subst e0
  rw [start none 0 e rfl]
  refine ⟨_, _, _, rfl, by omega, .inr ⟨nx + 2, nx + 1, nx + 2, rfl, by simp, ?_, ?_, Nat.le_refl _, by omega, by omega, by omega, by omega, by omega, by omega⟩, fun k hk => ?_⟩
  ·rw [Tr.get_set_eq]; simp [flatC]
  ·rw [Tr.get_set_ne _ _ (by omega), Tr.get_set_eq]
  ·rw [Tr.get_set_ne _ _ (by omega), Tr.get_set_ne _ _ (by omega), hget k (by omega)]
 ·have hn : 1 ≤ rows.length := List.length_pos_iff.2 h0
  have hfl : (flatC rows).length = rows.length * sz := flatC_length hrows
  rw [start (some ⟨b, 0, some sz⟩) rows.length e rfl]
  have hHb : H.get b = some (.cells (rowM true elem (flatC rows)) (flatC rows).length root) := by rw [hget b (by omega)]; exact g1
  have hHr : H.get root = some (.fam b al) := by rw [hget root (by omega)]; exact g2
  have hload : loadC H b 0 (rows.length * sz) = some (flatC rows) := by
   obtain ⟨b', e', hl'⟩ := load_own (h := H) (lo := lo) (nx := nx) (T := elem) (sz := sz) (v := v) (.inr ⟨b, root, al, e, h0, hHb, hHr, g3, g4, l1, l2, l3, l4, g5⟩) h0
   rw [e] at e'
   cases e'
   rw [← hfl]; exact hl'
  have hbl : Nat.ble (rows.length + 1) rows.length = false := by
   cases hx : Nat.ble (rows.length + 1) rows.length with
   | false => rfl
   | true => have := ble_true.1 hx; omega
  have hlat : isLatest H b root = true := by
   unfold isLatest
   rw [beq_false.2 g4, hHr]
   show (Nat.beq b b && Nat.ble al b) = true
   rw [beq_true.2 rfl, ble_true.2 g3]; rfl
  have hmk : (markIs ((rowM true elem (flatC rows)).get (flatC rows).length) elem && Nat.beq 0 0) = true := by
   show (markIs (((Tr.ofL (flatC rows)).set (flatC rows).length (.int .i64 (.ofNat elem))).get (flatC rows).length) elem && true) = true
   rw [Tr.get_set_eq]
   show (Nat.beq elem elem && true) = true
   rw [beq_true.2 rfl]; rfl
  have e2 : appBase (some ⟨b, 0, some sz⟩) H (nx + 1) elem sz rows.length rows.length 1 (cellsL r) = .ok (sliceNew (nx + 1) sz (rows.length + 1)) ((H.set root (.fam (nx + 1) al)).set (nx + 1) (.cells (rowM true elem (flatC rows ++ cellsL r)) (flatC rows ++ cellsL r).length root)) (nx + 2) := by
   show (match Nat.beq sz sz with | true => (match Nat.ble (rows.length + 1) rows.length with | true => _ | false => openAO (H.get b) H (nx + 1) elem ⟨b, 0, some sz⟩ (rows.length * sz) sz (rows.length + 1) (cellsL r)) | false => _) = _
   rw [beq_true.2 rfl, hbl, hHb]
   show (match Nat.beq (0 + rows.length * sz) (flatC rows).length && cellsV (cellsL r) with | true => openLate (isLatest H b root) (rowM true elem (flatC rows)) (flatC rows).length root H (nx + 1) elem ⟨b, 0, some sz⟩ (rows.length * sz) sz (rows.length + 1) (cellsL r) | false => _) = _
   rw [Nat.zero_add, beq_true.2 hfl.symm, hcv, hlat]
   show grownO (markIs ((rowM true elem (flatC rows)).get (flatC rows).length) elem && Nat.beq 0 0) elem (loadC H b 0 (rows.length * sz)) H (nx + 1) root sz (rows.length + 1) (cellsL r) = _
   rw [hmk, hload]
   show (match joinFam (famO (H.get root)) H (nx + 1) root _ with | .ok h => Go.Proofs.YtpnaenbpffhjfaaGreatDoor.Ev.H.ok _ h _ | .no => _) = _
   rw [hHr]; rfl
  rw [e2]
  refine ⟨_, _, _, rfl, by omega, .inr ⟨nx + 1, root, al, by rw [List.length_append]; rfl, by simp, ?_, ?_, by omega, g4, by omega, l2, by omega, by omega, by omega⟩, fun k hk => ?_⟩
  ·rw [Tr.get_set_eq, flatC_snoc]
  ·rw [Tr.get_set_ne _ _ (by omega), Tr.get_set_eq]
  ·rw [Tr.get_set_ne _ _ (by omega), Tr.get_set_ne _ _ (by omega), hget k (by omega)]
theorem view_own {a : Bool} (o : OwnS h lo nx sz T v rows) (hrows : ∀ r ∈ rows, (cellsL r).length = sz) (h1 : 1 ≤ sz) (hn : noIdL (flatC rows) = true) (hf : fitB a sz (flatC rows) = true) (hc : chop a sz rows.length (flatC rows) = rows) : viewS h a sz v = some (fz rows) := by
 by_cases h0 : rows = []
 ·rcases o with ⟨_, e⟩ | ⟨_, _, _, _, hh, _⟩
  ·subst h0 e; rfl
  ·exact (hh h0).elim
 ·obtain ⟨b, e, hl⟩ := load_own o h0
  have hfl : (flatC rows).length = rows.length * sz := flatC_length hrows
  have hp : 1 ≤ rows.length := List.length_pos_iff.2 h0
  rw [e, viewS_own, ble_true.2 (Nat.le_refl _)]
  show chopO a sz rows.length (firstS ⟨b, 0, some sz⟩ h (rows.length * sz)) = _
  unfold firstS
  rw [beq_false.2 (Nat.mul_ne_zero (by omega) (by omega)), ← hfl]
  show chopO a sz rows.length (loadC h b 0 (flatC rows).length) = _
  rw [hl, chopO_some, hn, hf]
  show some (fz (chop a sz rows.length (flatC rows))) = _
  rw [hc]
end
end Go.Proofs.YtpnaenbpffhjfaaGreatDoor.Ev

namespace Go.Proofs.YtpnaenbpffhjfaaGreatDoor.Ev
section
variable {H : Type} {enc : TypeId × Value → H} {P : Program} {w : World} {base : Nat} {spare : Nat → Bool} {held : Bool}
def RW (w : World) : Nat → Option Obj := fun r => w.heap[r]?
def Rd (enc : TypeId × Value → H) (P : Program) (w : World) (base : Nat) (spare : Nat → Bool) (held : Bool) (t : TypeId) (k : Nat) (Q : List Value → Prop) : Prop :=
 ∀ (n : Nat) (cs : List Value) (x : DataW H × List MemPlace), DataW.trod enc P w base spare held n t cs = some x → cs.length = k → ∃ us, FRL (RW w) us cs ∧ Q us
theorem Rd.mono {t : TypeId} {k : Nat} {Q Q' : List Value → Prop} (h : Rd enc P w base spare held t k Q) (hQ : ∀ us, Q us → Q' us) : Rd enc P w base spare held t k Q' := fun n cs x hx hl =>
 let ⟨us, a, b⟩ := h n cs x hx hl; ⟨us, a, hQ us b⟩
theorem Rd_int {t : TypeId} {k : IntKind} (ht : P.underlying t = some (.int k)) : Rd enc P w base spare held t 1 (fun us => ∃ i, us = [.int k i]) := fun n cs x hx hl => by
 obtain ⟨i, e, _⟩ := DataW.trod_int ht hx
 subst e
 exact ⟨_, .cons _ _ _ _ (.base _ rfl) .nil, i, rfl⟩
theorem Rd_str {t : TypeId} (ht : P.underlying t = some .string) : Rd enc P w base spare held t 1 (fun us => ∃ s, us = [.string s]) := fun n cs x hx hl => by
 obtain ⟨i, e, _⟩ := DataW.trod_string ht hx
 subst e
 exact ⟨_, .cons _ _ _ _ (.base _ rfl) .nil, i, rfl⟩
theorem Rd_u8 {t : TypeId} (ht : P.underlying t = some (.int .u8)) : Rd enc P w base spare held t 1 (fun us => ∃ b : UInt8, us = [eU8 b]) := fun n cs x hx hl => by
 obtain ⟨i, e, _, hwf⟩ := DataW.trod_int ht hx
 subst e
 have hr : 0 ≤ i ∧ i < 256 := by
  have h : (decide (IntKind.u8.min ≤ i) && decide (i ≤ IntKind.u8.max)) = true := hwf
  rw [Bool.and_eq_true, decide_eq_true_eq, decide_eq_true_eq, show IntKind.u8.min = 0 by rfl, show IntKind.u8.max = 255 by rfl] at h
  omega
 refine ⟨_, .cons _ _ _ _ (.base _ rfl) .nil, UInt8.ofNat i.toNat, ?_⟩
 unfold eU8
 have : (UInt8.ofNat i.toNat).toNat = i.toNat := by rw [UInt8.toNat_ofNat']; omega
 rw [this, Int.toNat_of_nonneg hr.1]
theorem cells_someR {a : Addr} {n : Nat} {cs : List Value} (h : w.cells? base a n = some cs) : cs.length = n ∧ ∀ i, i < n → w.cell? (a.add i) = cs[i]? := by
 unfold World.cells? at h
 split at h
 ·refine ⟨by simpa using mapM_some_length h, fun i hi => mapM_some_get h i i (by simp [hi])⟩
 ·cases h
theorem flatC_app (a b : List Value) : flatC (a ++ b) = flatC a ++ flatC b := by
 unfold flatC
 rw [List.flatMap_append]
theorem Rd_slice {t e : TypeId} {k : Nat} {Q : List Value → Prop} (mk : List Value → Value) (hmk : ∀ us, us.length = k → cellsL (mk us) = us) (ht : P.underlying t = some (.slice e)) (hz : P.cellsOf e = k) (h1 : 1 ≤ k) (hQ : Rd enc P w base spare held e k Q) :
  Rd enc P w base spare held t 1 (fun us => ∃ rows : List (List Value), us = [fz (rows.map mk)] ∧ ∀ r ∈ rows, Q r) := fun n cs x hx hl => by
 rcases DataW.trod_slice ht hx with ⟨e1, _⟩ | ⟨a, len, cap, elems, rest, n, _, e1, _, _, hlc, _, hlen, hel, _⟩
 ·subst e1
  exact ⟨_, .cons _ _ _ _ (.sl0 _ _ none 0 fun _ => rfl) .nil, [], rfl, fun r hr => by cases hr⟩
 ·subst e1
  rcases Nat.eq_zero_or_pos len with h0 | h0
  ·subst h0
   exact ⟨_, .cons _ _ _ _ (.sl0 _ _ (some a) cap fun h => by cases h) .nil, [], rfl, fun r hr => by cases hr⟩
  ·have row : ∀ i, i < len → ∃ us ci : List Value, us.length = k ∧ ci.length = k ∧ FRL (RW w) us ci ∧ Q us ∧ ∀ j, j < k → w.cell? ((a.add (i * k)).add j) = ci[j]? := by
    intro i hi
    have h2 := hel i hi
    rw [hz] at h2
    rw [List.getElem?_eq_getElem (by omega)] at h2
    obtain ⟨ci, hc, htr⟩ := Option.bind_eq_some_iff.1 h2
    obtain ⟨l1, l2⟩ := cells_someR hc
    obtain ⟨us, u1, u2⟩ := hQ _ _ _ htr l1
    exact ⟨us, ci, by rw [u1.length, l1], l1, u1, u2, l2⟩
   obtain ⟨_, c0, _, l0, _, _, g0⟩ := row 0 h0
   have z0 : w.cell? a = c0[0]? := by
    have := g0 0 (by omega)
    simpa [Addr.add] using this
   rw [List.getElem?_eq_getElem (by omega)] at z0
   have hsp := World.cell?_spot z0
   obtain ⟨r, off, sp⟩ := a
   simp only at hsp
   subst hsp
   obtain ⟨arr, el, fr, hb⟩ : ∃ cs el fr, w.heap[r]? = some (.cells cs el fr) := by
    unfold World.cell? at z0
    split at z0
    ·rename_i c x y hb; exact ⟨_, _, _, hb⟩
    ·cases z0
   have hadd : ∀ x y : Nat, (Addr.add (Addr.add ⟨r, off, none⟩ x) y) = ⟨r, off + (x + y), none⟩ := by
    intro x y
    simp only [Addr.add]
    split <;> split <;> simp_all <;> omega
   have all : ∀ m, m ≤ len → ∃ (rows : List (List Value)) (cs' : List Value), rows.length = m ∧ cs'.length = m * k ∧ (∀ r ∈ rows, r.length = k ∧ Q r) ∧ FRL (RW w) (flatC (rows.map mk)) cs' ∧ ∀ j, j < m * k → arr[off + j]? = cs'[j]? := by
    intro m
    induction m with
    | zero => intro _; exact ⟨[], [], rfl, by simp, (fun r hr => by cases hr), .nil, (fun j hj => by omega)⟩
    | succ m ih =>
     intro hm
     obtain ⟨rows, cs', r1, r2, r3, r4, r5⟩ := ih (by omega)
     obtain ⟨us, ci, l1, l2, u1, u2, l3⟩ := row m (by omega)
     refine ⟨rows ++ [us], cs' ++ ci, by simp [r1], by rw [List.length_append, r2, l2, Nat.succ_mul], ?_, ?_, ?_⟩
     ·intro q hq
      rcases List.mem_append.1 hq with h | h
      ·exact r3 q h
      ·rw [List.mem_singleton.1 h]; exact ⟨l1, u2⟩
     ·rw [List.map_append, flatC_app]
      refine FRL.append r4 ?_
      show FRL (RW w) (flatC [mk us]) ci
      have : flatC [mk us] = us := by unfold flatC; simp [hmk us l1]
      rw [this]; exact u1
     ·intro j hj
      rcases Nat.lt_or_ge j (m * k) with h | h
      ·rw [List.getElem?_append_left (by omega)]; exact r5 j h
      ·rw [List.getElem?_append_right (by omega), r2]
       have := l3 (j - m * k) (by rw [Nat.succ_mul] at hj; omega)
       rw [hadd, cell_at hb] at this
       rw [← this]; congr 1; omega
   obtain ⟨rows, cs', r1, r2, r3, r4, r5⟩ := all len (Nat.le_refl _)
   refine ⟨_, .cons _ _ _ _ ?_ .nil, rows, rfl, fun q hq => (r3 q hq).2⟩
   have hsz : off + cs'.length ≤ arr.size := by
    have h2 : cs'.length - 1 < len * k := by
     have : 1 ≤ len * k := Nat.mul_pos h0 h1
     omega
    have h3 := r5 (cs'.length - 1) h2
    rw [List.getElem?_eq_getElem (by have : 1 ≤ len * k := Nat.mul_pos h0 h1; omega)] at h3
    have := (Array.getElem?_eq_some_iff.1 h3).1
    omega
   have := FR.sl (R := RW w) "" ⟨[]⟩ (rows.map mk) cs' r off k cap ⟨arr, el, fr, hb, hsz, fun j v hj => by
    have hlt := (List.getElem?_eq_some_iff.1 hj).1
    rw [r5 j (by omega)]; exact hj⟩ r4 (fun x hx => by
     obtain ⟨q, hq, rfl⟩ := List.mem_map.1 hx
     rw [hmk q (r3 q hq).1]; exact (r3 q hq).1) (by rw [List.length_map, r1]; exact hlc)
   rw [List.length_map, r1] at this
   exact this
inductive Parts : List (List Value → Prop) → List Value → Prop
 | nil : Parts [] []
 | cons (Q : List Value → Prop) (Qs : List (List Value → Prop)) (a b : List Value) (h : Q a) (hl : Parts Qs b) : Parts (Q :: Qs) (a ++ b)
def offs : List (TypeId × Nat × (List Value → Prop)) → Nat → List (Nat × Nat)
 | [], _ => []
 | p :: l, o => (p.1, o) :: offs l (o + p.2.1)
def sumK : List (TypeId × Nat × (List Value → Prop)) → Nat
 | [] => 0
 | p :: l => p.2.1 + sumK l
def isFs (o : Option TypeDesc) (n : List (Nat × Nat)) : Bool := match o with
 | some (.struct fs) => fs.toList.map (fun f => (f.type, f.offset)) == n
 | _ => false
theorem Rd_struct {t : TypeId} (fl : List (TypeId × Nat × (List Value → Prop))) (hs : isFs (P.underlying t) (offs fl 0) = true) (hf : ∀ p ∈ fl, Rd enc P w base spare held p.1 p.2.1 p.2.2 ∧ P.cellsOf p.1 = p.2.1) :
  Rd enc P w base spare held t (sumK fl) (Parts (fl.map (·.2.2))) := fun n cs x hx hl => by
 unfold isFs at hs
 split at hs
 ·rename_i fs he
  have hm : fs.toList.map (fun f => (f.type, f.offset)) = offs fl 0 := by simpa using hs
  obtain ⟨xs, n, _, _, _, hxs, hfd⟩ := DataW.trod_struct he hx
  have key : ∀ (l : List (TypeId × Nat × (List Value → Prop))) (i o : Nat), (∀ p ∈ l, p ∈ fl) → (fs.toList.drop i).map (fun f => (f.type, f.offset)) = offs l o → (cs.drop o).length = sumK l → ∃ us, FRL (RW w) us (cs.drop o) ∧ Parts (l.map (·.2.2)) us := by
   intro l
   induction l with
   | nil =>
    intro i o _ _ hlen
    have : cs.drop o = [] := List.eq_nil_of_length_eq_zero hlen
    rw [this]
    exact ⟨[], .nil, .nil⟩
   | cons p l ih =>
    intro i o hmem hmap hlen
    obtain ⟨t', k, Q⟩ := p
    cases hd : fs.toList.drop i with
    | nil => rw [hd] at hmap; cases hmap
    | cons f rest =>
     rw [hd] at hmap
     have hmap : (f.type, f.offset) :: rest.map (fun f => (f.type, f.offset)) = (t', o) :: offs l (o + k) := hmap
     injection hmap with h1 h2
     injection h1 with h3 h4
     have hi : i < fs.toList.length := by
      rcases Nat.lt_or_ge i fs.toList.length with h | h
      ·exact h
      ·rw [List.drop_eq_nil_of_le h] at hd; cases hd
     have hd2 := List.drop_eq_getElem_cons hi
     rw [hd] at hd2
     injection hd2 with h5 h6
     have hfi : fs[i]? = some f := by rw [← Array.getElem?_toList, List.getElem?_eq_getElem hi, h5]
     have htr := hfd i f hfi
     obtain ⟨hR, hc⟩ := hf (t', k, Q) (hmem _ (List.mem_cons_self ..))
     simp only at hR hc
     rw [h3, h4, hc] at htr
     have hix : i < xs.length := by rw [hxs]; simpa using hi
     rw [List.getElem?_eq_getElem hix] at htr
     have hlen : (cs.drop o).length = k + sumK l := hlen
     have hlk : ((cs.drop o).take k).length = k := by rw [List.length_take]; omega
     obtain ⟨u, u1, u2⟩ := hR _ _ _ htr hlk
     obtain ⟨us, v1, v2⟩ := ih (i + 1) (o + k) (fun q hq => hmem q (List.mem_cons_of_mem _ hq)) (by rw [← h6]; exact h2) (by rw [← List.drop_drop, List.length_drop]; omega)
     refine ⟨u ++ us, ?_, .cons Q _ u us u2 v2⟩
     have := u1.append v1
     rw [← List.drop_drop, List.take_append_drop] at this
     exact this
  have hk := key fl 0 0 (fun p hp => hp) (by rw [List.drop_zero]; exact hm) (by rw [List.drop_zero]; exact hl)
  rw [List.drop_zero] at hk
  exact hk
 ·cases hs
theorem arg_struct {r : Reach} {b : Nat} {t : TypeId} {fs : Array Field} {k : Nat} {Q : List Value → Prop} (ht : P.underlying t = some (.struct fs)) (hz : P.cellsOf t = k) (hQ : Rd enc P w base spare held t k Q) {v : Value} (ho : Value.okWide P w r b t v) {d : DataW H} {p : List MemPlace} (hk : DataW.Trod enc P w base spare held t v d p) :
  ∃ us, FR (RW w) (.agg ⟨us⟩) v ∧ Q us := by
 unfold Value.okWide at ho
 rw [ht] at ho
 obtain ⟨cs, rfl, hc, _⟩ := ho
 obtain ⟨fuel, hk⟩ := hk
 obtain ⟨cs⟩ := cs
 obtain ⟨us, h1, h2⟩ := hQ fuel cs _ hk (by rw [← hz]; exact hc)
 exact ⟨us, .agg _ _ h1, h2⟩
end
theorem fn_calls {P : Program} {g : FuncId} {args args' : List Value} {b : Bool} (h : FnOk P g args (.bool b)) {w : World} (ha : FRL (RW w) args args') : Calls P g ⟨args'⟩ w fun e w1 => e = .returned (.bool b) ∧ RowKit.Below w.heap.size w w1 := by
 obtain ⟨_, h2⟩ := h (RW w) w args' (fun _ _ h => h) ha
 refine callsIn_wide.1 (CallsIn.mono h2 fun e w1 he => ?_)
 obtain ⟨v', R', e1, e2, _, _, h3, h4, h5, h6, h7⟩ := he
 have : v' = .bool b := by cases e2; rfl
 subst this
 exact ⟨e1, ⟨h3, h4, h5, h6, h7⟩⟩
theorem calls_fn {P : Program} (hN : NameGood P) {g : FuncId} {fn : Func} (hf : P.funcs[g]? = some fn) (hb : fn.body.isSome = true) {args : List Value} {v : Value} (ha : flatL args = true) (hv : flat v = true)
  (h : ∀ w : World, Calls P g ⟨args⟩ w fun e w1 => e = .returned v ∧ RowKit.Below w.heap.size w w1) : FnOk P g args v := by
 obtain ⟨c, hc⟩ := Option.isSome_iff_exists.1 hb
 exact row_fn (r := ⟨g, args, v⟩) ⟨ha, hv, fun w => ⟨run_enter (E := { P, fz := fun _ => none, ext := fun _ => none, ov := fun _ => none, hv := fun _ => [], fk := fun _ => false, sr := fun _ => none }) hN hf hc ⟨args⟩ w, callsIn_wide.2 (h w)⟩⟩
end Go.Proofs.YtpnaenbpffhjfaaGreatDoor.Ev

