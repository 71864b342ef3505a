/- The evaluator, part 3: its heavy operations are what the model does. No program in sight; no conditions. -/
import Derived.Test.YtpnaenbpffhjfaaGreatDoorEy2
import Derived.CallsIn
import Derived.Room.Entries
import Derived.Lib.UnsafeStr
import Derived.DefersIn
set_option linter.unusedVariables false
set_option linter.unusedSimpArgs false
namespace Go.Proofs.YtpnaenbpffhjfaaGreatDoor.Ev

def HVal (P : Program) (o : Oper) (a : Act) (σ : Sg) (h : Hp) (nx : Nat) (w : World) (v : Value) (h' : Hp) (nx' : Nat) : Prop :=
 nx ≤ nx' ∧ ∃ x v' w1 σ', (execOp a.eval o).run P w = .ok x w1 ∧ (x = .value v' ∨ (x = .skip ∧ v' = undef)) ∧ Rel σ' h' nx' w1 ∧ Fwd σ h w σ' h' w1 ∧ VR σ' v v'
def HDone (P : Program) (o : Oper) (a : Act) (σ : Sg) (h : Hp) (nx : Nat) (w : World) : H → Prop
 | .no _ _ => True
 | .ok v h' nx' => HVal P o a σ h nx w v h' nx'
theorem VR.undef {σ : Sg} : VR σ undef undef := flat_self _ rfl
section
variable {σ : Sg} {h : Hp} {nx : Nat} {w : World} {P : Program} {o : Oper} {a : Act}
theorem HVal.skip {h' : Hp} {nx' : Nat} {w1 : World} (hr : (execOp a.eval o).run P w = .ok .skip w1) (R : Rel σ h' nx' w1) (F : Fwd σ h w σ h' w1) (hn : nx ≤ nx') :
  HVal P o a σ h nx w undef h' nx' := ⟨hn, _, _, w1, σ, hr, .inr ⟨rfl, rfl⟩, R, F, VR.undef⟩
theorem HVal.val {h' : Hp} {nx' : Nat} {w1 : World} {v v' : Value} {σ' : Sg} (hr : (execOp a.eval o).run P w = .ok (.value v') w1) (R : Rel σ' h' nx' w1) (F : Fwd σ h w σ' h' w1) (hn : nx ≤ nx') (hv : VR σ' v v') :
  HVal P o a σ h nx w v h' nx' := ⟨hn, _, _, w1, σ', hr, .inl rfl, R, F, hv⟩
theorem urun {s : Sem Unit} {w1 : World} (h : s.run P w = .ok () w1) : (do s; pure Next.skip : Sem Next).run P w = .ok .skip w1 := by
 rw [run_b h]; rfl
theorem run_setObj {r : Nat} {ob ob' : Obj} (h : w.heap[r]? = some ob) (hc : ∀ c e f, ob ≠ .cells c e f) : (setObj r ob').run P w = .ok () { w with heap := w.heap.setIfInBounds r ob' } := by
 unfold setObj
 simp only [Sem.run, h]
theorem Rel.obj_turn (R : Rel σ h nx w) {b : Nat} {o o' : AO} {i : BI} (hg : h.get b = some o) (hs : σ b = some i) (hf : famOf o = 0) (hf' : famOf o' = 0) (hz : sizeOfA o' = sizeOfA o) (hnf : ¬ isFam o')
  (hl : live h b o) {ob : Obj} (ho : OR σ { w with heap := w.heap.setIfInBounds i.r ob } i o') (hnt : ¬ isTab o := by exact fun x => x) :
  Rel σ (h.set b o') nx { w with heap := w.heap.setIfInBounds i.r ob } ∧ Fwd σ h w σ (h.set b o') { w with heap := w.heap.setIfInBounds i.r ob } :=
 R.turn hg hs (hf'.trans hf.symm) hnf hz (h1 := h) (fun _ _ => rfl) (fun x => (x hf).elim) (fun x => (x hf).elim) hl rfl ho hnt
theorem set_at {r : Nat} {ob ob' : Obj} (h : w.heap[r]? = some ob) : (w.heap.setIfInBounds r ob')[r]? = some ob' := by
 have hr : r < w.heap.size := by
  rcases Nat.lt_or_ge r w.heap.size with h' | h'
  ·exact h'
  ·simp [Array.getElem?_eq_none h'] at h
 simp [Array.getElem?_setIfInBounds, hr]

theorem storeP_good (R : Rel σ h nx w) {ad : Addr} {cs : List Value} {cs' : Array Value} {sz : Nat} {i : BI} (hi : σ ad.block = some i) (hv : VRL σ cs cs'.toList)
  {t : TypeId} (ht : sizeT P t = some sz) {v : Value} {h' : Hp} {nx' : Nat} (e : storeP ad cs sz h nx = .ok v h' nx') :
  v = undef ∧ nx' = nx ∧ cs'.size = sz ∧ ∃ w1, (storeCells ⟨i.r, i.shift + ad.off, none⟩ cs'.toList).run P w = .ok () w1 ∧ Rel σ h' nx w1 ∧ Fwd σ h w σ h' w1 := by
 unfold storeP at e
 cases hb : Nat.beq cs.length sz with
 | false => rw [hb] at e; cases e
 | true =>
  rw [hb] at e
  simp only at e
  cases hs : storeC h ad.block ad.off cs with
  | no => rw [hs] at e; cases e
  | ok h1 =>
   rw [hs] at e
   cases e
   obtain ⟨w1, a1, a2, a3⟩ := store_sound P R hs hi hv
   refine ⟨rfl, rfl, ?_, w1, a1, a2, a3⟩
   have := hv.length
   rw [← beq_true.1 hb, this]; simp
theorem hspec_store {t : TypeId} {x y : Operand} (ho : o.op = .store t x y) (r : Rec) {tm : Tr Value} {nt : Nat} (R : Rel σ h nx w) (T : TR σ nt tm a.tmps) :
  HDone P o a σ h nx w ((cStore (sizeT P t) (cOpv x) (cOpv y)).f r tm h nx) := by
 cases hs : sizeT P t with
 | none => trivial
 | some sz =>
  show HDone P o a σ h nx w (match ptrO (opv x tm), knownV (opv y tm) with | some ad, true => storeP ad (cellsL (opv y tm)) sz h nx | _, _ => H.no "store: address" "")
  cases hp : ptrO (opv x tm) with
  | none => trivial
  | some ad =>
   cases hk : knownV (opv y tm) with
   | false => trivial
   | true =>
    simp only
    cases he : storeP ad (cellsL (opv y tm)) sz h nx with
    | no _ _ => trivial
    | ok v h' nx' =>
     obtain ⟨hxe, hsp⟩ := ptrO_some hp
     have hx := VR.opv T x
     rw [hxe] at hx
     obtain ⟨_, i, hi, hx'⟩ := hx.ptrI
     obtain ⟨e1, e2, e3, w1, e4, e5, e6⟩ := storeP_good R hi (cellsL_VR (VR.opv T y) hk) hs he
     subst e1 e2
     refine HVal.skip (w1 := w1) ?_ e5 e6 (Nat.le_refl _)
     have hex : execOp a.eval o = (do Instr.storeAt t (a.eval x) (a.eval y); pure .skip) := by unfold execOp; simp only [ho]
     rw [hex]
     refine urun ?_
     unfold Instr.storeAt
     rw [hx', run_b (sure_run _)]
     unfold storeVar
     rw [run_b (run_size hs)]
     rw [if_neg (fun hne => hne e3)]
     exact e4

theorem setE_ERL {es es' : List MapEntry} (he : ERL σ es es') {v v' : Value} (hv : VR σ v v') : ∀ (i : Nat), ERL σ (setE v i es) (es'.modify i fun e => { e with val := v' }) := by
 induction he with
 | nil => intro i; cases i <;> exact .nil
 | cons e e' l l' h1 hl ih =>
  intro i
  cases i with
  | zero => exact .cons _ _ _ _ ⟨h1.1, h1.2.1, hv⟩ hl
  | succ i => exact .cons _ _ _ _ h1 (ih i)
theorem ERL.append {es es' fs fs' : List MapEntry} (he : ERL σ es es') (hf : ERL σ fs fs') : ERL σ (es ++ fs) (es' ++ fs') := by
 induction he with
 | nil => exact hf
 | cons e e' l l' h1 hl ih => exact .cons _ _ _ _ h1 ih
theorem delE_ERL {es es' : List MapEntry} (he : ERL σ es es') : ∀ (i : Nat), ERL σ (delE i es) (es'.eraseIdx i) := by
 induction he with
 | nil => intro i; cases i <;> exact .nil
 | cons e e' l l' h1 hl ih =>
  intro i
  cases i with
  | zero => exact hl
  | succ i => exact .cons _ _ _ _ h1 (ih i)
theorem ERL.get {es es' : List MapEntry} (he : ERL σ es es') : ∀ (i : Nat) (e : MapEntry), es[i]? = some e → ∃ e', es'[i]? = some e' ∧ ER σ e e' := by
 induction he with
 | nil => intro i e h; simp at h
 | cons e e' l l' h1 hl ih =>
  intro i x hx
  cases i with
  | zero => simp at hx; subst hx; exact ⟨e', by simp, h1⟩
  | succ i => simp at hx; simpa using ih i x hx
theorem ERL.length_eq {es es' : List MapEntry} (he : ERL σ es es') : es.length = es'.length := he.length
end
end Go.Proofs.YtpnaenbpffhjfaaGreatDoor.Ev

namespace Go.Proofs.YtpnaenbpffhjfaaGreatDoor.Ev
theorem zip_eq : ∀ (l m : List Value), l.length = m.length → (∀ a b, (a, b) ∈ l.zip m → a = b) → l = m
 | [], [], _, _ => rfl
 | [], _ :: _, h, _ => by simp at h
 | _ :: _, [], h, _ => by simp at h
 | x :: l, y :: m, h, hz => by
  rw [hz x y (by simp), zip_eq l m (by simpa using h) fun a b hab => hz a b (by simp [hab])]
theorem bytes_eq {s u : ByteArray} (h : (s == u) = true) : s = u := by
 obtain ⟨sd⟩ := s
 obtain ⟨ud⟩ := u
 have : (sd == ud) = true := h
 rw [eq_of_beq this]
theorem bytes_self (s : ByteArray) : (s == s) = true := by
 obtain ⟨sd⟩ := s
 show (sd == sd) = true
 simp
theorem sameBits_eq : ∀ (n : Nat) (a b : Value), Instr.sameBits n a b = true → a = b := by
 intro n
 induction n with
 | zero =>
  intro a b h
  cases a <;> cases b <;> simp [Instr.sameBits] at h ⊢ <;> first | exact bytes_eq h | simp_all
 | succ n ih =>
  intro a b h
  cases a <;> cases b <;> simp [Instr.sameBits] at h ⊢ <;> try (first | exact bytes_eq h | (simp_all; done))
  ·exact ⟨h.1, ih _ _ h.2⟩
  ·obtain ⟨hs, hl⟩ := h
   exact Array.toList_inj.1 (zip_eq _ _ (by simpa using hs) fun a b hab => ih _ _ (hl a b hab))
section
variable {σ : Sg} {h : Hp} {nx : Nat} {w : World} {P : Program} {o : Oper} {a : Act}
theorem findE_some {kt : TypeId} {kind : Nat} {k : Value} : ∀ (es : List MapEntry) (i : Nat) (p : Nat × Value), findE P kt kind k es i = some (some p) →
  i ≤ p.1 ∧ ∃ e, es[p.1 - i]? = some e ∧ sameKey P kt kind k e.key = some true := by
 intro es
 induction es with
 | nil => intro i p h; cases h
 | cons x es ih =>
  intro i p e
  change (match sameKey P kt kind k x.key with | some true => some (some (i, x.val)) | some false => findE P kt kind k es (i + 1) | none => none) = some (some p) at e
  cases hs : sameKey P kt kind k x.key with
  | none => rw [hs] at e; cases e
  | some b =>
   rw [hs] at e
   cases b with
   | true => cases e; exact ⟨Nat.le_refl _, x, by simp, hs⟩
   | false =>
    obtain ⟨h1, y, h2, h3⟩ := ih (i + 1) p e
    refine ⟨by omega, y, ?_, h3⟩
    have : p.1 - i = (p.1 - (i + 1)) + 1 := by omega
    rw [this]; simpa using h2
theorem sameKey_eq {kt : TypeId} {kind : Nat} {k x : Value} (hk : kind ≠ 4) (h : sameKey P kt kind k x = some true) : k = x ∧ Instr.sameBits 10000 x k = true := by
 unfold sameKey at h
 split at h
 ·exact (hk rfl).elim
 ·unfold sameNowA at h
  split at h
  ·cases k <;> first | cases h | skip
   obtain ⟨b, h1, h2⟩ := sameInt_eq h
   have := eq_of_beq h2.symm
   subst this h1
   exact ⟨rfl, by simp [Instr.sameBits]⟩
  ·cases k <;> first | cases h | skip
   obtain ⟨b, h1, h2⟩ := sameStr_eq h
   have := bytes_eq h2.symm
   subst this h1
   exact ⟨rfl, by simp [Instr.sameBits, bytes_self]⟩
  ·cases k <;> first | cases h | skip
   obtain ⟨b, h1, h2⟩ := sameBool_eq h
   have := eq_of_beq h2.symm
   subst this h1
   exact ⟨rfl, by simp [Instr.sameBits]⟩
  ·cases h
theorem sameOld_eq {kt : TypeId} {kind : Nat} {k : Value} {es : List MapEntry} {p : Nat × Value} (hf : findE P kt kind k es 0 = some (some p)) (hb : sameOld kind k (nth es p.1) = true) :
  ∃ e, es[p.1]? = some e ∧ e.key = k ∧ Instr.sameBits 10000 e.key k = true := by
 obtain ⟨_, e, h1, h2⟩ := findE_some es 0 p hf
 simp only [Nat.sub_zero] at h1
 refine ⟨e, h1, ?_⟩
 by_cases h4 : kind = 4
 ·subst h4
  unfold sameOld at hb
  rw [nth_eq, h1] at hb
  exact ⟨sameBits_eq _ _ _ hb, hb⟩
 ·obtain ⟨h5, h6⟩ := sameKey_eq h4 h2
  exact ⟨h5.symm, h6⟩
theorem modify_key (es : Array MapEntry) (i : Nat) (k v : Value) (e : MapEntry) (he : es[i]? = some e) (hk : e.key = k) :
  es.modify i (fun x => { x with key := k, val := v }) = es.modify i (fun x => { x with val := v }) := by
 apply Array.ext_getElem?
 intro j
 rw [Array.getElem?_modify, Array.getElem?_modify]
 by_cases hj : i = j
 ·subst hj
  simp only [if_pos, he, Option.map_some]
  subst hk; rfl
 ·simp [hj]
theorem mapUpdate_good (R : Rel σ h nx w) {t kt el kk : Nat} (hm : mapT P t = some (kt, el, kk)) {r : Nat} {i : BI} (hi : σ r = some i) {k v k' v' : Value} (hk : VR σ k k') (hv : VR σ v v')
  {u : Value} {h' : Hp} {nx' : Nat} (e : putAO (h.get r) P kt kk h nx r k v = .ok u h' nx') :
  u = undef ∧ nx' = nx ∧ ∃ w1, (Instr.mapUpdate t (.map (some i.r)) k' v').run P w = .ok () w1 ∧ Rel σ h' nx w1 ∧ Fwd σ h w σ h' w1 := by
 obtain ⟨hmt, hkk⟩ := mapT_some hm
 cases hg : h.get r with
 | none => rw [hg] at e; cases e
 | some ob =>
  rw [hg] at e
  cases ob with
  | map es clock =>
   change (match keyFine P kt kk k with | true => putM kk h nx r es clock k v (findE P kt kk k es 0) | false => H.no "map: key" "") = .ok u h' nx' at e
   cases hf : keyFine P kt kk k with
   | false => rw [hf] at e; cases e
   | true =>
    rw [hf] at e
    simp only at e
    obtain ⟨kd, hkd⟩ := keyFine_und (by rw [← hkk]; exact hf)
    have hke : kk = keyD (some kd) := by rw [hkk]; unfold keyK; rw [hkd]
    subst hke
    obtain ⟨es', clock', hw, hes, hcl⟩ := R.map hg hi
    obtain ⟨hck, hfl⟩ := keyFine_good hkd hf w false
    have hkeq := (flat_eq hk hfl).symm
    subst hkeq
    obtain ⟨es'⟩ := es'
    cases hfe : findE P kt (keyD (some kd)) k es 0 with
    | none => rw [hfe] at e; cases e
    | some rr =>
     rw [hfe] at e
     obtain ⟨rr', hFR, hrun⟩ := findKey_good hkd w hes hfe
     have hgo : (getObj i.r).run P w = .ok (.map ⟨es'⟩ clock') w := run_getObj hw (by intros; simp)
     cases rr with
     | none =>
      cases rr' with
      | some p' => exact hFR.elim
      | none =>
       cases e
       have ho := R.obj_turn (o' := .map (es ++ [{ key := k, val := v, born := clock }]) (clock + 1)) (ob := .map ((⟨es'⟩ : Array MapEntry).push ⟨k, v', clock'⟩) (clock' + 1)) hg hi rfl rfl rfl (fun x => x) trivial
        ⟨_, _, set_at hw, by rw [hcl], by rw [Array.toList_push]; exact hes.append (.cons _ _ _ _ ⟨⟨rfl, hcl⟩, hfl, hv⟩ .nil)⟩
       refine ⟨rfl, rfl, _, ?_, ho.1, ho.2⟩
       unfold Instr.mapUpdate
       rw [run_b (run_und hmt)]
       simp only
       rw [run_b hgo]
       simp only
       rw [run_b hck, run_b hrun]
       simp only
       exact run_setObj hw (by intros; simp)
     | some p =>
      cases rr' with
      | none => exact hFR.elim
      | some p' =>
       change putOld (sameOld (keyD (some kd)) k (nth es p.1)) h nx r es clock v p.1 = .ok u h' nx' at e
       cases hb : sameOld (keyD (some kd)) k (nth es p.1) with
       | false => rw [hb] at e; cases e
       | true =>
        rw [hb] at e
        cases e
        obtain ⟨en, he1, he2, he3⟩ := sameOld_eq hfe hb
        obtain ⟨en', he1', ⟨he2', _⟩, _, _⟩ := hes.get _ _ he1
        obtain ⟨p1, p2⟩ := p
        obtain ⟨p1', p2'⟩ := p'
        obtain ⟨hp, _⟩ := hFR
        change p1 = p1' at hp
        subst hp
        have ho := R.obj_turn (o' := .map (setE v p1 es) clock) (ob := .map ((⟨es'⟩ : Array MapEntry).modify p1 fun x => { x with val := v' }) clock') hg hi rfl rfl rfl (fun x => x) trivial
         ⟨_, _, set_at hw, hcl, by rw [Array.toList_modify]; exact setE_ERL hes hv p1⟩
        refine ⟨rfl, rfl, _, ?_, ho.1, ho.2⟩
        unfold Instr.mapUpdate
        rw [run_b (run_und hmt)]
        simp only
        rw [run_b hgo]
        simp only
        rw [run_b hck, run_b hrun]
        simp only
        have hat : ((⟨es'⟩ : Array MapEntry)[p1]?).map (·.key) = some en.key := by
         have : (⟨es'⟩ : Array MapEntry)[p1]? = some en' := by simpa using he1'
         rw [this, Option.map_some, he2']
        have hks : (Instr.keyThatStays (Option.getD (Option.map (fun x => x.key) (⟨es'⟩ : Array MapEntry)[p1]?) k) k).run P w = .ok k w := by
         rw [hat]
         unfold Instr.keyThatStays
         rw [if_pos (by simpa using he3)]
         rfl
        rw [run_b hks]
        rw [modify_key ⟨es'⟩ p1 k v' en' (by simpa using he1') (he2'.trans he2)]
        exact run_setObj hw (by intros; simp)
  | _ => cases e
end
end Go.Proofs.YtpnaenbpffhjfaaGreatDoor.Ev

namespace Go.Proofs.YtpnaenbpffhjfaaGreatDoor.Ev
section
variable {σ : Sg} {h : Hp} {nx : Nat} {w : World} {P : Program} {o : Oper} {a : Act}
theorem mapO_some {v : Value} {r : Nat} (e : mapO v = some r) : v = .map (some r) := by
 unfold mapO at e
 split at e
 ·cases e; rfl
 ·cases e
theorem hspec_mapSet {t : TypeId} {x y z : Operand} (ho : o.op = .mapUpdate t x y z ∨ o.op = .insert t x y z) {tm : Tr Value} {nt : Nat} (R : Rel σ h nx w) (T : TR σ nt tm a.tmps) :
  HDone P o a σ h nx w (evMapSet P t (opv x tm) (opv y tm) (opv z tm) h nx) := by
 cases he : evMapSet P t (opv x tm) (opv y tm) (opv z tm) h nx with
 | no _ _ => trivial
 | ok v h' nx' =>
  unfold evMapSet at he
  cases hm : mapT P t with
  | none => simp only [hm] at he; cases he
  | some p =>
   simp only [hm] at he
   cases hr : mapO (opv x tm) with
   | none => simp only [hr] at he; cases he
   | some r =>
    simp only [hr] at he
    have hx := VR.opv T x
    rw [mapO_some hr] at hx
    obtain ⟨i, hi, hx'⟩ := hx.mapS
    obtain ⟨e1, e2, w1, e3, e4, e5⟩ := mapUpdate_good R hm hi (VR.opv T y) (VR.opv T z) he
    subst e1 e2
    refine HVal.skip (w1 := w1) ?_ e4 e5 (Nat.le_refl _)
    have hex : execOp a.eval o = (do Instr.mapUpdate t (a.eval x) (a.eval y) (a.eval z); pure .skip) := by
     rcases ho with ho | ho <;> (unfold execOp; simp only [ho])
    rw [hex, hx']
    exact urun e3
theorem arg0 {c : Call} {tm : Tr Value} {nt : Nat} (T : TR σ nt tm a.tmps) {s : Value} {r : List Value} (e : (cOps c.args.toList).f tm = s :: r) :
  ∃ s', (c.args.map a.eval)[0]? = some s' ∧ VR σ s s' := by
 have hl := VRL.ops T c.args.toList
 change VRL σ ((cOps c.args.toList).f tm) _ at hl
 rw [e] at hl
 obtain ⟨s', h1, h2⟩ := hl.get 0 s rfl
 exact ⟨s', by rw [map_args]; simpa using h1, h2⟩
theorem arg1 {c : Call} {tm : Tr Value} {nt : Nat} (T : TR σ nt tm a.tmps) {s x : Value} {r : List Value} (e : (cOps c.args.toList).f tm = s :: x :: r) :
  ∃ s' x', (c.args.map a.eval)[0]? = some s' ∧ (c.args.map a.eval)[1]? = some x' ∧ VR σ s s' ∧ VR σ x x' := by
 have hl := VRL.ops T c.args.toList
 change VRL σ ((cOps c.args.toList).f tm) _ at hl
 rw [e] at hl
 obtain ⟨s', h1, h2⟩ := hl.get 0 s rfl
 obtain ⟨x', h3, h4⟩ := hl.get 1 x rfl
 exact ⟨s', x', by rw [map_args]; simpa using h1, by rw [map_args]; simpa using h3, h2, h4⟩
theorem typ0 {c : Call} {t : TypeId} {r : List TypeId} (e : c.argTypes.toList = t :: r) : c.argTypes[0]? = some t := by
 rw [← Array.getElem?_toList, e]; rfl
theorem typ1 {c : Call} {t u : TypeId} {r : List TypeId} (e : c.argTypes.toList = t :: u :: r) : c.argTypes[1]? = some u := by
 rw [← Array.getElem?_toList, e]; rfl
theorem zeroCells_eq {z : Value} (hf : flat z = true) (n : Nat) : (Builtin.zeroCells z.cells n).toList = repL n (cellsL z) := by
 obtain ⟨h1, h2⟩ := flatL_cells hf
 have h3 : z.cells = (cellsL z).toArray := by rw [← h1]
 unfold Builtin.zeroCells
 rw [h3]
 simp only [Array.toList_map, Array.toList_range, List.size_toArray]
 exact rep_range (cellsL z) _ rfl n
theorem hspec_delete {c : Call} (ho : o.op = .call c) (hc : c.callee = .builtin .delete) {tm : Tr Value} {nt : Nat} (R : Rel σ h nx w) (T : TR σ nt tm a.tmps) :
  HDone P o a σ h nx w (evDelete P c.argTypes.toList ((cOps c.args.toList).f tm) h nx) := by
 have hex : execOp a.eval o = (do pure (Next.value (← Builtin.delete_ c.argTypes o.type (c.args.map a.eval)))) := by rw [exec_builtin ho hc]; rfl
 cases he : evDelete P c.argTypes.toList ((cOps c.args.toList).f tm) h nx with
 | no _ _ => trivial
 | ok v h' nx' =>
  unfold evDelete at he
  split at he
  ·rename_i t tr m k xr hts hxs
   cases hm : mapT P t with
   | none => simp only [hm] at he; cases he
   | some p =>
    obtain ⟨kt, el, kk⟩ := p
    simp only [hm] at he
    cases hr : mapO m with
    | none => simp only [hr] at he; cases he
    | some r =>
     simp only [hr] at he
     obtain ⟨m', k', ha0, ha1, hmv, hkv⟩ := arg1 T hxs
     rw [mapO_some hr] at hmv
     obtain ⟨i, hi, hm'⟩ := hmv.mapS
     subst hm'
     obtain ⟨hmt, hkk⟩ := mapT_some hm
     cases hg : h.get r with
     | none => rw [hg] at he; cases he
     | some ob =>
      rw [hg] at he
      cases ob with
      | map es clock =>
       change (match keyFine P kt kk k with | true => delM h nx r es clock (findE P kt kk k es 0) | false => H.no "delete: key" "") = .ok v h' nx' at he
       cases hf : keyFine P kt kk k with
       | false => rw [hf] at he; cases he
       | true =>
        rw [hf] at he
        simp only at he
        obtain ⟨kd, hkd⟩ := keyFine_und (by rw [← hkk]; exact hf)
        have hke : kk = keyD (some kd) := by rw [hkk]; unfold keyK; rw [hkd]
        subst hke
        obtain ⟨es', clock', hw, hes, hcl⟩ := R.map hg hi
        obtain ⟨hck, hfl⟩ := keyFine_good hkd hf w es'.isEmpty
        have hkeq := (flat_eq hkv hfl).symm
        subst hkeq
        have hgo : (getObj i.r).run P w = .ok (.map es' clock') w := run_getObj hw (by intros; simp)
        cases hfe : findE P kt (keyD (some kd)) k es 0 with
        | none => rw [hfe] at he; cases he
        | some rr =>
         rw [hfe] at he
         obtain ⟨rr', hFR, hrun⟩ := findKey_good hkd w hes hfe
         have fin : ∀ (fs : List MapEntry) (ob : Obj) (h1 : Hp), Rel σ h1 nx { w with heap := w.heap.setIfInBounds i.r ob } → Fwd σ h w σ h1 { w with heap := w.heap.setIfInBounds i.r ob } →
           (match rr' with | some (j, _) => setObj i.r (.map (es'.eraseIdxIfInBounds j) clock') | none => setObj i.r (.map es' clock')).run P w = .ok () { w with heap := w.heap.setIfInBounds i.r ob } →
           HVal P o a σ h nx w undef h1 nx := by
          intro fs ob h1 r1 r2 r3
          refine HVal.val (v' := undef) ?_ r1 r2 (Nat.le_refl _) VR.undef
          rw [hex]
          refine vrun ?_
          unfold Builtin.delete_
          simp only [typ0 hts, ha0, ha1]
          rw [run_b (run_und hmt)]
          simp only
          rw [run_b hgo]
          simp only
          rw [run_b hck, run_b hrun]
          cases rr' with
          | none => exact (run_b r3).trans rfl
          | some q => exact (run_b r3).trans rfl
         cases rr with
         | none =>
          cases rr' with
          | some p' => exact hFR.elim
          | none =>
           cases he
           have hset : w.heap.setIfInBounds i.r (.map es' clock') = w.heap := by
            apply Array.ext_getElem?
            intro k
            rw [Array.getElem?_setIfInBounds]
            split
            ·subst_vars; split
             ·exact hw.symm
             ·rename_i hk; simp at hk; simp [hk]
            ·rfl
           refine fin [] (.map es' clock') h ?_ ?_ (run_setObj hw (by intros; simp))
           ·rw [hset]; exact R
           ·rw [hset]; exact Fwd.refl _ _ _
         | some p =>
          cases rr' with
          | none => exact hFR.elim
          | some p' =>
           obtain ⟨p1, p2⟩ := p
           obtain ⟨p1', p2'⟩ := p'
           obtain ⟨hp, _⟩ := hFR
           change p1 = p1' at hp
           subst hp
           cases he
           have ho := R.obj_turn (o' := .map (delE p1 es) clock) (ob := .map (es'.eraseIdxIfInBounds p1) clock') hg hi rfl rfl rfl (fun x => x) trivial
            ⟨_, _, set_at hw, hcl, by rw [Array.toList_eraseIdxIfInBounds]; exact delE_ERL hes p1⟩
           exact fin [] _ _ ho.1 ho.2 (run_setObj hw (by intros; simp))
      | _ => cases he
  ·cases he
end
end Go.Proofs.YtpnaenbpffhjfaaGreatDoor.Ev

namespace Go.Proofs.YtpnaenbpffhjfaaGreatDoor.Ev
section
variable {σ : Sg} {h : Hp} {nx : Nat} {w : World} {P : Program} {o : Oper} {a : Act}
theorem clearT_some {t : Nat} (e : clearT P t = true) : ∃ d, P.underlying t = some d ∧ ((∃ k v, d = .map k v) ∨ ∃ e, d = .slice e) := by
 unfold clearT at e
 split at e
 ·rename_i k v hd; exact ⟨_, hd, .inl ⟨_, _, rfl⟩⟩
 ·rename_i el hd; exact ⟨_, hd, .inr ⟨_, rfl⟩⟩
 ·cases e
theorem hspec_clear {c : Call} (ho : o.op = .call c) (hc : c.callee = .builtin .clear) {tm : Tr Value} {nt : Nat} (R : Rel σ h nx w) (T : TR σ nt tm a.tmps) :
  HDone P o a σ h nx w (evClear P c.argTypes.toList ((cOps c.args.toList).f tm) h nx) := by
 have hex : execOp a.eval o = (do pure (Next.value (← Builtin.clear_ c.argTypes o.type (c.args.map a.eval)))) := by rw [exec_builtin ho hc]; rfl
 cases he : evClear P c.argTypes.toList ((cOps c.args.toList).f tm) h nx with
 | no _ _ => trivial
 | ok v h' nx' =>
  unfold evClear at he
  split at he
  ·rename_i t tr x xr hts hxs
   cases hct : clearT P t with
   | false => simp only [hct] at he; cases he
   | true =>
    simp only [hct] at he
    obtain ⟨d, hd, hdd⟩ := clearT_some hct
    obtain ⟨x', ha0, hxv⟩ := arg0 T hxs
    have fin : ∀ (h1 : Hp) (w1 : World), (match d, x' with
       | _, .map none => (pure (.tuple #[]) : Sem Value)
       | _, .slice none _ _ => pure (.tuple #[])
       | _, .slice _ 0 _ => pure (.tuple #[])
       | _, .map (some r) => do
        match ← getObj r with
        | .map _ clock => do
         setObj r (.map #[] clock)
         pure (.tuple #[])
        | _ => do
         stuck "clear: map expected"
         pure (.tuple #[])
       | .slice elem, .slice (some a) n _ => do
        storeCells a (Builtin.zeroCells (← zeroValue elem).cells n).toList
        pure (.tuple #[])
       | _, _ => do
        stuck "clear: map or slice expected"
        pure (.tuple #[])).run P w = .ok undef w1 → Rel σ h1 nx w1 → Fwd σ h w σ h1 w1 → HVal P o a σ h nx w undef h1 nx := by
     intro h1 w1 hr r1 r2
     refine HVal.val (v' := undef) ?_ r1 r2 (Nat.le_refl _) VR.undef
     rw [hex]
     refine vrun ?_
     unfold Builtin.clear_
     simp only [typ0 hts, ha0]
     rw [run_b (run_und hd)]
     exact hr
    cases x with
    | map r =>
     cases r with
     | none =>
      cases he
      have := hxv.nilmap
      subst this
      refine fin h w ?_ R (Fwd.refl _ _ _)
      cases d <;> rfl
     | some r =>
      obtain ⟨i, hi, hm'⟩ := hxv.mapS
      subst hm'
      change clearMp (h.get r) h nx r = _ at he
      cases hg : h.get r with
      | none => rw [hg] at he; cases he
      | some ob =>
       rw [hg] at he
       cases ob with
       | map es clock =>
        cases he
        obtain ⟨es', clock', hw, hes, hcl⟩ := R.map hg hi
        have ho := R.obj_turn (o' := .map [] clock) (ob := .map #[] clock') hg hi rfl rfl rfl (fun x => x) trivial ⟨_, _, set_at hw, hcl, .nil⟩
        refine fin _ _ ?_ ho.1 ho.2
        have hgo : (getObj i.r).run P w = .ok (.map es' clock') w := run_getObj hw (by intros; simp)
        have hset := run_setObj (P := P) (ob' := .map #[] clock') hw (by intros; simp)
        cases d <;> (simp only; rw [run_b hgo]; simp only; rw [run_b hset]; rfl)
       | _ => cases he
    | slice p n cp =>
     cases p with
     | none =>
      cases he
      obtain ⟨_, _, hx'⟩ := hxv.nilslice
      subst hx'
      refine fin h w ?_ R (Fwd.refl _ _ _)
      cases d <;> rfl
     | some ad =>
      change (match Nat.beq n 0 with | true => H.ok undef h nx | false => clearSl P (sliceT P t) ad n h nx) = _ at he
      have hx' : ∃ ad' cq, x' = .slice (some ad') n cq ∧ (n ≠ 0 → ∃ i, σ ad.block = some i ∧ ad' = ⟨i.r, i.shift + ad.off, none⟩) := by
       rcases hxv.sliceI with ⟨_, i, h1, h2⟩ | ⟨e, i, cap, _, _, h1, _, _, _, h2⟩ | ⟨_, h0, ⟨a', cap, h2⟩, _⟩
       ·exact ⟨_, _, h2, fun _ => ⟨i, h1, rfl⟩⟩
       ·exact ⟨_, _, h2, fun _ => ⟨i, h1, rfl⟩⟩
       ·subst h0; exact ⟨_, _, h2, fun hn => (hn rfl).elim⟩
      obtain ⟨ad', cq, hx', hpl⟩ := hx'
      subst hx'
      cases hb : Nat.beq n 0 with
      | true =>
       rw [hb] at he
       cases he
       have := beq_true.1 hb
       subst this
       refine fin h w ?_ R (Fwd.refl _ _ _)
       cases d <;> rfl
      | false =>
       rw [hb] at he
       have hn0 := beq_false.1 hb
       obtain ⟨i, hi, hade⟩ := hpl hn0
       subst hade
       simp only at he
       unfold clearSl at he
       cases hst : sliceT P t with
       | none => rw [hst] at he; cases he
       | some q =>
        obtain ⟨el, ag, sz⟩ := q
        rw [hst] at he
        simp only at he
        cases hz : zcT P el sz with
        | none => rw [hz] at he; cases he
        | some z =>
         rw [hz] at he
         simp only at he
         cases hs : storeC h ad.block ad.off (repL n z) with
         | no => rw [hs] at he; cases he
         | ok h1 =>
          rw [hs] at he
          cases he
          obtain ⟨zv, hz1, hz2, hz3⟩ := zcT_some hz
          have hfl := zero_flat hz1
          have hdl := (sliceT_some hst).1
          rw [hd] at hdl
          cases hdl
          have hzc := zeroCells_eq hfl n
          rw [← hz2] at hzc
          have hflz : flatL (repL n z) = true := flatL_rep z (by rw [hz2]; exact (flatL_cells hfl).2) n
          obtain ⟨w1, e1, e2, e3⟩ := store_sound P R hs hi (flatL_self _ hflz)
          refine fin _ w1 ?_ e2 e3
          cases n with
          | zero => exact (hn0 rfl).elim
          | succ n =>
           simp only
           rw [run_b (run_zero hz1), hzc, run_b e1]
           rfl
    | _ => cases he
  ·cases he
end
end Go.Proofs.YtpnaenbpffhjfaaGreatDoor.Ev

namespace Go.Proofs.YtpnaenbpffhjfaaGreatDoor.Ev
section
variable {σ : Sg} {h : Hp} {nx : Nat} {w : World} {P : Program} {o : Oper} {a : Act}
theorem len_some {x x' : Value} {n : Nat} (e : lenV x = some n) (hx : VR σ x x') : (∀ r, x ≠ .map r) → (Builtin.lenOf x').run P w = .ok n w := by
 intro hm
 unfold lenV at e
 split at e
 ·cases e; rw [hx.string, lenB_eq]; rfl
 ·rename_i p n' cp
  cases e
  cases p with
  | none => obtain ⟨h1, _, h3⟩ := hx.nilslice; subst h1 h3; rfl
  | some ad =>
   rcases hx.sliceI with ⟨_, i, h1, h2⟩ | ⟨e, i, cap, _, _, h1, _, _, _, h2⟩ | ⟨_, h0, ⟨a', cap, h2⟩, _⟩
   ·subst h2; rfl
   ·subst h2; rfl
   ·subst h2 h0; rfl
 ·exact (hm _ rfl).elim
 ·rename_i fn fa fb
  cases hf : fzO (.func fn fa fb) with
  | none => rw [hf] at e; cases e
  | some rows =>
   rw [hf] at e
   cases e
   obtain ⟨s7, b7, hv7⟩ := fzO_some hf
   rw [hv7] at hx
   rcases hx.fzI.slI with ⟨h0, A, cap, hX, hA⟩ | ⟨cs', r, o2, e2, cap, hR, hlR, hee, hcap, hX⟩
   ·subst hX h0; rfl
   ·subst hX; rfl
 ·cases e
theorem load_zero (ad : Addr) : (loadCells ad 0).run P w = .ok #[] w := rfl
theorem firstS_good (R : Rel σ h nx w) {ad : Addr} {n : Nat} {l : List Value} (e : firstS ad h n = some l) {x' : Value} {len c : Nat} (hx : VR σ (.slice (some ad) len c) x') (hn : n ≠ 0 → len ≠ 0) :
  ∃ ad' cq l', x' = .slice (some ad') len cq ∧ (loadCells ad' n).run P w = .ok l'.toArray w ∧ VRL σ l l' := by
 unfold firstS at e
 cases hb : Nat.beq n 0 with
 | true =>
  rw [hb] at e
  cases e
  have := beq_true.1 hb
  subst this
  rcases hx.sliceI with ⟨_, i, h1, h2⟩ | ⟨e, i, cap, _, _, h1, _, _, _, h2⟩ | ⟨_, h0, ⟨a', cap, h2⟩, _⟩
  ·exact ⟨_, _, [], h2, load_zero _, .nil⟩
  ·exact ⟨_, _, [], h2, load_zero _, .nil⟩
  ·subst h0; exact ⟨_, _, [], h2, load_zero _, .nil⟩
 | false =>
  rw [hb] at e
  rcases hx.sliceI with ⟨_, i, h1, h2⟩ | ⟨e9, i, cap, _, _, h1, _, _, _, h2⟩ | ⟨_, h0, ⟨a', cap, h2⟩, _⟩
  ·obtain ⟨l', h3, h4⟩ := load_sound P R e h1
   exact ⟨_, _, l', h2, h3, h4⟩
  ·obtain ⟨l', h3, h4⟩ := load_sound P R e h1
   exact ⟨_, _, l', h2, h3, h4⟩
  ·exact (hn (beq_false.1 hb) h0).elim
theorem firstC_good (R : Rel σ h nx w) {x x' : Value} {size n m : Nat} {l : List Value} (e : firstC x h size n = some l) (hl : lenV x = some m) (hn : n ≤ m) (hx : VR σ x x') :
  ∃ l', (Builtin.firstCells size n x').run P w = .ok l'.toArray w ∧ VRL σ l l' := by
 unfold firstC at e
 split at e
 ·rename_i ad len c
  cases hl
  obtain ⟨ad', cq, l', h1, h2, h3⟩ := firstS_good (P := P) R e hx (fun hne => by rintro rfl; have : n = 0 := by omega
                                                                                 subst this; simp at hne)
  subst h1
  exact ⟨l', h2, h3⟩
 ·cases e
  obtain ⟨h1, _, h3⟩ := hx.nilslice
  subst h3
  exact ⟨[], rfl, .nil⟩
 ·rename_i s
  cases hb : Nat.beq size 1 with
  | false => rw [hb] at e; cases e
  | true =>
   rw [hb] at e
   cases e
   rw [hx.string]
   refine ⟨bytesL (takeL n s.data.toList), ?_, flatL_self _ (flatL_bytes _)⟩
   show Result.ok ((s.extract 0 n).data.map fun b => Value.int .u8 b.toNat) w = _
   congr 1
   apply Array.toList_inj.1
   rw [bytesL_eq, takeL_eq]
   simp
 ·rename_i fn fa fb
  cases hf : fzO (.func fn fa fb) with
  | none => rw [hf] at e; cases e
  | some rows =>
   rw [hf] at e
   obtain ⟨s7, b7, hv7⟩ := fzO_some hf
   have hm : m = rows.length := by
    rw [hv7] at hl
    cases hl; rfl
   subst hm
   change (match rowsAre size rows with | true => some (takeL (n * size) (flatC rows)) | false => none) = some l at e
   cases hra : rowsAre size rows with
   | false => rw [hra] at e; cases e
   | true =>
    rw [hra] at e
    cases e
    have he2 := rowsAre_iff.1 hra
    rw [takeL_eq]
    rw [hv7] at hx
    rcases hx.fzI.slI with ⟨h0, A, cap, hX, hA⟩ | ⟨cs', r, o2, e2, cap, hR, hlR, hee, hcap, hX⟩
    ·subst hX h0
     have hn0 : n = 0 := by simpa using hn
     subst hn0
     refine ⟨[], ?_, by simp; exact .nil⟩
     cases A with
     | none => rfl
     | some A => show (loadCells A (0 * size)).run P w = _; rw [Nat.zero_mul]; exact load_zero A
    ·subst hX
     refine ⟨cs'.take (n * size), ?_, (hlR.take _).vr fun _ _ h => h⟩
     exact (rd_load P (fun r o hr => (R.fz r o hr).1) hR (n := n * size) (by rw [← hlR.length, flatC_length he2]; exact Nat.mul_le_mul_right _ hn)).1
 ·cases e
theorem minB_eq (n m : Nat) : minB n m = Nat.min n m := by
 unfold minB
 cases hb : Nat.ble n m with
 | true => rw [show Nat.min n m = n from Nat.min_eq_left (ble_true.1 hb)]
 | false =>
  have : ¬ n ≤ m := fun h => by rw [ble_true.2 h] at hb; cases hb
  rw [show Nat.min n m = m from Nat.min_eq_right (by omega)]
theorem minB_le (n m : Nat) : minB n m ≤ n ∧ minB n m ≤ m := by
 rw [minB_eq]; exact ⟨Nat.min_le_left _ _, Nat.min_le_right _ _⟩
theorem hspec_copy {c : Call} (ho : o.op = .call c) (hc : c.callee = .builtin .copy) {tm : Tr Value} {nt : Nat} (R : Rel σ h nx w) (T : TR σ nt tm a.tmps) :
  HDone P o a σ h nx w (evCopy P c.argTypes.toList ((cOps c.args.toList).f tm) h nx) := by
 have hex : execOp a.eval o = (do pure (Next.value (← Builtin.copy_ c.argTypes o.type (c.args.map a.eval)))) := by rw [exec_builtin ho hc]; rfl
 cases he : evCopy P c.argTypes.toList ((cOps c.args.toList).f tm) h nx with
 | no _ _ => trivial
 | ok v h' nx' =>
  unfold evCopy at he
  split at he
  ·rename_i t tr d s xr hts hxs
   cases hst : sliceT P t with
   | none => simp only [hst] at he; cases he
   | some q =>
    obtain ⟨el, ag, sz⟩ := q
    cases hln : lenV s with
    | none => simp only [hst, hln] at he; cases he
    | some n =>
     simp only [hst, hln] at he
     obtain ⟨d', s', ha0, ha1, hdv, hsv⟩ := arg1 T hxs
     cases d with
     | slice base dLen dc =>
      change copyN base (minB n dLen) sz s h nx = _ at he
      unfold copyN at he
      cases hfc : firstC s h sz (minB n dLen) with
      | none => rw [hfc] at he; cases he
      | some cs =>
       rw [hfc] at he
       simp only at he
       have hnm : ∀ r, s ≠ .map r := by
        rintro r rfl
        cases hfc
       obtain ⟨cs', hrun, hvr⟩ := firstC_good (P := P) R hfc hln (minB_le _ _).1 hsv
       have hd' : ∃ base' dcq, d' = .slice base' dLen dcq ∧ (base = none → base' = none) ∧
         (∀ ad, base = some ad → ∃ ad', base' = some ad' ∧ (dLen ≠ 0 → ∃ i, σ ad.block = some i ∧ ad' = ⟨i.r, i.shift + ad.off, none⟩)) := by
        cases base with
        | none => obtain ⟨h1, _, h3⟩ := hdv.nilslice; subst h1; exact ⟨_, _, h3, fun _ => rfl, fun ad hh => by cases hh⟩
        | some ad =>
         rcases hdv.sliceI with ⟨_, i, h1, h2⟩ | ⟨e, i, cap, _, _, h1, _, _, _, h2⟩ | ⟨_, h0, ⟨a', cap, h2⟩, _⟩
         ·exact ⟨_, _, h2, (by intro hh; cases hh), fun ad2 hh => by cases hh; exact ⟨_, rfl, fun _ => ⟨i, h1, rfl⟩⟩⟩
         ·exact ⟨_, _, h2, (by intro hh; cases hh), fun ad2 hh => by cases hh; exact ⟨_, rfl, fun _ => ⟨i, h1, rfl⟩⟩⟩
         ·subst h0; exact ⟨_, _, h2, (by intro hh; cases hh), fun ad2 hh => by cases hh; exact ⟨_, rfl, fun hn => (hn rfl).elim⟩⟩
       obtain ⟨base', dcq, hd', hbn, hbs⟩ := hd'
       subst hd'
       have fin : ∀ (h1 : Hp) (w1 : World), (match base' with | some ad => storeCells ad cs' | none => (pure () : Sem Unit)).run P w = .ok () w1 → Rel σ h1 nx w1 → Fwd σ h w σ h1 w1 →
         HVal P o a σ h nx w (mkPos .i64 (minB n dLen)) h1 nx := by
        intro h1 w1 hr r1 r2
        rw [mkPos_eq]
        refine HVal.val (v' := goInt (minB n dLen)) ?_ r1 r2 (Nat.le_refl _) (VR.i _ _)
        rw [hex]
        refine vrun ?_
        unfold Builtin.copy_
        simp only [typ0 hts, ha0, ha1]
        rw [run_b (run_und (sliceT_some hst).1)]
        simp only
        rw [run_b (len_some hln hsv hnm)]
        rw [run_b (run_size (shape_size (sliceT_some hst).2))]
        rw [← minB_eq, run_b hrun]
        cases base' with
        | none => simp only; simp only at hr; cases hr; rfl
        | some ad' => simp only; rw [run_b hr]; rfl
       cases base with
       | none =>
        cases he
        have := hbn rfl
        subst this
        exact fin h w rfl R (Fwd.refl _ _ _)
       | some ad =>
        obtain ⟨ad', hbe, hpl⟩ := hbs ad rfl
        subst hbe
        change (match Nat.beq (minB n dLen) 0 with | true => H.ok (mkPos .i64 0) h nx | false => storedA (storeC h ad.block ad.off cs) (mkPos .i64 (minB n dLen)) nx) = _ at he
        cases hb : Nat.beq (minB n dLen) 0 with
        | true =>
         rw [hb] at he
         cases he
         have h0 := beq_true.1 hb
         have hcs : cs = [] := by
          rw [h0] at hfc
          unfold firstC at hfc
          split at hfc
          ·simp [firstS, Nat.beq] at hfc; exact hfc
          ·cases hfc; rfl
          ·split at hfc
           ·cases hfc; rfl
           ·cases hfc
          ·unfold firstFz at hfc
           split at hfc
           ·split at hfc
            ·cases hfc; rw [Nat.zero_mul]; rfl
            ·cases hfc
           ·cases hfc
          ·cases hfc
         subst hcs
         cases hvr
         have := fin h w rfl R (Fwd.refl _ _ _)
         rw [h0] at this
         exact this
        | false =>
         rw [hb] at he
         have hn0 := beq_false.1 hb
         obtain ⟨i, hi, hade⟩ := hpl (fun hz => hn0 (by have := (minB_le n dLen).2; omega))
         subst hade
         simp only at he
         cases hs : storeC h ad.block ad.off cs with
         | no => rw [hs] at he; cases he
         | ok h1 =>
          rw [hs] at he
          cases he
          obtain ⟨w1, e1, e2, e3⟩ := store_sound P R hs hi hvr
          exact fin _ w1 e1 e2 e3
     | _ => cases he
  ·cases he
end
end Go.Proofs.YtpnaenbpffhjfaaGreatDoor.Ev

namespace Go.Proofs.YtpnaenbpffhjfaaGreatDoor.Ev
section
variable {σ : Sg} {h : Hp} {nx : Nat} {w : World} {P : Program} {o : Oper} {a : Act}
theorem decode_ascii {s : ByteArray} {pos : Nat} {b : UInt8} (hb : s.data.toList[pos]? = some b) (hlt : b.toNat < 128) : Utf8.decode s pos = (b.toNat, 1) := by
 have hget : s.get! pos = b := by
  obtain ⟨d⟩ := s
  have h1 : d[pos]? = some b := by simpa using hb
  show d[pos]! = b
  rw [getElem!_def, h1]
 unfold Utf8.decode
 simp only [Nat.add_zero, hget]
 rw [if_pos (by simpa using hlt)]
theorem run_ite_f6 {α : Type} {p : Prop} [Decidable p] {x y : Sem α} (h : ¬ p) : (if p then x else y).run P w = y.run P w := by rw [if_neg h]
theorem fil_nil (p : MapEntry → Bool) : (⟨[]⟩ : Array MapEntry).filter p = #[] := by
 apply Array.ext'; rw [Array.toList_filter]; rfl
theorem memN_eq (n : Nat) : ∀ l : List Nat, memN n l = l.contains n
 | [] => rfl
 | m :: l => by
  show (match Nat.beq n m with | true => true | false => memN n l) = _
  rw [List.contains_cons]
  cases hb : Nat.beq n m with
  | true => rw [beq_true.1 hb]; simp
  | false =>
   have : (n == m) = false := by simpa using beq_false.1 hb
   rw [this, memN_eq n l]; rfl
theorem leftE_good {seen : List Nat} : ∀ {es es' : List MapEntry}, ERL σ es es' → ERL σ (leftE seen es) (es'.filter fun e => !seen.contains e.born)
 | _, _, .nil => .nil
 | _, _, .cons e e' l l' he hl => by
  show ERL σ (match memN e.born seen with | true => leftE seen l | false => e :: leftE seen l) _
  rw [List.filter_cons, he.1.2, memN_eq]
  cases seen.contains e.born with
  | true => exact leftE_good hl
  | false => exact .cons _ _ _ _ he (leftE_good hl)
theorem allNew_good {last : Nat} : ∀ {es es' : List MapEntry}, ERL σ es es' → allNew last es = es'.all fun e => decide (e.born ≥ last)
 | _, _, .nil => rfl
 | _, _, .cons e e' l l' he hl => by
  show (match Nat.ble last e.born with | true => allNew last l | false => false) = _
  rw [List.all_cons, he.1.2]
  cases hb : Nat.ble last e.born with
  | true =>
   have : decide (e.born ≥ last) = true := decide_eq_true (ble_true.1 hb)
   rw [this, Bool.true_and]; exact allNew_good hl
  | false =>
   have : decide (e.born ≥ last) = false := decide_eq_false fun h => by rw [ble_true.2 h] at hb; cases hb
   rw [this]; rfl
theorem isNil_good {es es' : List MapEntry} (h : ERL σ es es') : isNil es = es'.isEmpty := by cases h <;> rfl
theorem hspec_next {x : Operand} {s : Bool} (ho : o.op = .next x s) {tm : Tr Value} {nt : Nat} (R : Rel σ h nx w) (T : TR σ nt tm a.tmps) :
  HDone P o a σ h nx w (evNext s (opv x tm) h nx) := by
 have hex : execOp a.eval o = (do pure (Next.value (← Instr.next (a.eval x) s o.type))) := by unfold execOp; simp only [ho]
 cases he : evNext s (opv x tm) h nx with
 | no _ _ => trivial
 | ok v h' nx' =>
  unfold evNext at he
  cases hp : ptrO (opv x tm) with
  | none => simp only [hp] at he; cases he
  | some ad =>
   simp only [hp] at he
   cases hb : Nat.beq ad.off 0 with
   | false => rw [hb] at he; cases he
   | true =>
    rw [hb] at he
    simp only at he
    obtain ⟨hxe, hsp⟩ := ptrO_some hp
    have hx := VR.opv T x
    rw [hxe] at hx
    obtain ⟨_, i, hi, hx'⟩ := hx.ptrI
    cases s with
    | false =>
     change nextMap (h.get ad.block) h nx ad.block = _ at he
     cases hg : h.get ad.block with
     | none => rw [hg] at he; cases he
     | some ob =>
      rw [hg] at he
      cases ob with
      | mit m since seen last =>
       obtain ⟨hr, ho⟩ := R.at_ hg hi
       obtain ⟨m', hw, hm', hsh⟩ := ho trivial
       have hx0 : a.eval x = .pointer (some ⟨i.r, 0, none⟩) := by rw [hx', hsh, beq_true.1 hb]
       have hgo : (getObj i.r).run P w = .ok (.mapIter m' since ⟨seen⟩ last) w := run_getObj hw (by intros; simp)
       cases m with
       | none =>
        change m' = none at hm'
        subst hm'
        cases he
        refine HVal.val (v' := .tuple ⟨[.bool false]⟩) ?_ R (Fwd.refl _ _ _) (Nat.le_refl _) (flat_self _ rfl)
        rw [hex, hx0]
        refine vrun ?_
        unfold Instr.next
        simp only
        rw [run_b hgo]
        rfl
       | some m =>
        obtain ⟨j, hj, hm'⟩ := hm'
        subst hm'
        change nextM (h.get m) m since seen last h nx ad.block = _ at he
        cases hgm : h.get m with
        | none => rw [hgm] at he; cases he
        | some ob2 =>
         rw [hgm] at he
         cases ob2 with
         | map es clock =>
          obtain ⟨es', clock', hwm, hes, hcl⟩ := R.map hgm hj
          subst hcl
          obtain ⟨es'⟩ := es'
          have hgm' : (getObj j.r).run P w = .ok (.map ⟨es'⟩ clock') w := run_getObj hwm (by intros; simp)
          change (match goneE seen es last with | true => H.no "next: all are new" "" | false => stepM m since seen clock' h nx ad.block (leftE seen es)) = _ at he
          cases hgn : goneE seen es last with
          | true => rw [hgn] at he; cases he
          | false =>
           rw [hgn] at he
           simp only at he
           have hcond : (!(⟨seen⟩ : Array Nat).isEmpty && !(⟨es'⟩ : Array MapEntry).isEmpty && (⟨es'⟩ : Array MapEntry).all (fun e => decide (e.born ≥ last))) = false := by
            have h1 : (⟨seen⟩ : Array Nat).isEmpty = isNil seen := by cases seen <;> rfl
            have h2 : (⟨es'⟩ : Array MapEntry).isEmpty = isNil es := by rw [isNil_good hes]; cases es' <;> rfl
            have h3 : (⟨es'⟩ : Array MapEntry).all (fun e => decide (e.born ≥ last)) = allNew last es := by
             rw [allNew_good hes]; simp
            rw [h1, h2, h3]
            unfold goneE at hgn
            rw [nb_eq, nb_eq] at hgn
            rw [Bool.and_assoc]; exact hgn
           have hleft := leftE_good (seen := seen) hes
           have hfil : (⟨es'⟩ : Array MapEntry).filter (fun e => !(⟨seen⟩ : Array Nat).contains e.born) = ⟨es'.filter fun e => !seen.contains e.born⟩ := by
            apply Array.ext'
            rw [Array.toList_filter]
            simp
           -- the model's own step, out of what is left
           have step : ∀ (cs : Array (Option MapEntry)) (r : Value) (w1 : World), (if ((⟨es'.filter fun e => !seen.contains e.born⟩ : Array MapEntry).filter (fun e => decide (e.born < since))).isEmpty = true then #[none] else #[]) ++ (((⟨es'.filter fun e => !seen.contains e.born⟩ : Array MapEntry).filter (fun e => decide (e.born < since))) ++ ((⟨es'.filter fun e => !seen.contains e.born⟩ : Array MapEntry).filter (fun e => decide (e.born ≥ since)))).map some = cs →
             (do match cs[← choose (.mapNext cs.size)]? with
               | some (some e) => do
                setObj i.r (.mapIter (some j.r) since ((⟨seen⟩ : Array Nat).push e.born) clock')
                pure (.tuple #[.bool true, e.key, e.val])
               | some none => pure (.tuple #[.bool false])
               | none => stuck "Next: no such candidate" : Sem Value).run P w = .ok r w1 → (execOp a.eval o).run P w = .ok (.value r) w1 := by
            intro cs r w1 hcs hrun
            rw [hex, hx0]
            refine vrun ?_
            unfold Instr.next
            simp only
            rw [run_b hgo]
            simp only
            rw [run_b hgm']
            simp only
            rw [hfil, hcs]
            refine (run_ite_f6 (by rw [hcond]; simp)).trans ?_
            exact hrun
           cases hl : leftE seen es with
           | nil =>
            rw [hl] at he hleft
            cases he
            have hnil : (es'.filter fun e => !seen.contains e.born) = [] := by
             generalize (es'.filter fun e => !seen.contains e.born) = q at hleft
             cases hleft; rfl
            refine HVal.val (v' := .tuple ⟨[.bool false]⟩) (step #[none] _ w (by rw [hnil, fil_nil, fil_nil]; simp) ?_) R (Fwd.refl _ _ _) (Nat.le_refl _) (flat_self _ rfl)
            have hch : (choose (.mapNext 1)).run P w = .ok 0 w := rfl
            show (choose (.mapNext 1) >>= _).run P w = _
            rw [run_b hch]
            rfl
           | cons e rest =>
            rw [hl] at he hleft
            change (match isNil rest && Nat.blt e.born since with | true => H.ok (.tuple ⟨[.bool true, e.key, e.val]⟩) (h.set ad.block (.mit (some m) since (seen ++ [e.born]) clock')) nx | false => H.no "next: which entry is open" "") = _ at he
            cases hbb : (isNil rest && Nat.blt e.born since) with
            | false => rw [hbb] at he; cases he
            | true =>
             rw [hbb] at he
             simp only [Bool.and_eq_true] at hbb
             have hrest : rest = [] := by cases rest with | nil => rfl | cons _ _ => cases hbb.1
             subst hrest
             cases he
             obtain ⟨e', hq, hER⟩ : ∃ e', (es'.filter fun e => !seen.contains e.born) = [e'] ∧ ER σ e e' := by
              generalize (es'.filter fun e => !seen.contains e.born) = q at hleft
              cases hleft with
              | cons _ e' _ l' h1 hl => cases hl; exact ⟨e', rfl, h1⟩
             have hborn : e'.born < since := by rw [hER.1.2]; exact blt_true.1 hbb.2
             have hot := R.obj_turn (o' := .mit (some m) since (seen ++ [e.born]) clock') (ob := .mapIter (some j.r) since ((⟨seen⟩ : Array Nat).push e'.born) clock') hg hi rfl rfl rfl (fun x => x) trivial
              ⟨some j.r, by rw [set_at hw, hER.1.2]; simp, ⟨j, hj, rfl⟩, hsh⟩
             refine HVal.val (v' := .tuple ⟨[.bool true, e'.key, e'.val]⟩) (step #[some e'] _ _ ?_ ?_) hot.1 hot.2 (Nat.le_refl _) ?_
             ·rw [hq]
              have h1 : (⟨[e']⟩ : Array MapEntry).filter (fun e => decide (e.born < since)) = #[e'] := by
               apply Array.ext'; rw [Array.toList_filter]; simp [hborn]
              have h2 : (⟨[e']⟩ : Array MapEntry).filter (fun e => decide (e.born ≥ since)) = #[] := by
               apply Array.ext'; rw [Array.toList_filter]; simp [hborn]
              rw [h1, h2]
              simp
             ·have hch : (choose (.mapNext 1)).run P w = .ok 0 w := rfl
              show (choose (.mapNext 1) >>= _).run P w = _
              rw [run_b hch]
              show ((setObj i.r (.mapIter (some j.r) since ((⟨seen⟩ : Array Nat).push e'.born) clock')) >>= _).run P w = _
              rw [run_b (run_setObj hw (by intros; simp))]
              rfl
             ·refine .tuple _ _ (.cons _ _ _ _ (.base _ rfl) (.cons _ _ _ _ ?_ (.cons _ _ _ _ hER.2.2 .nil)))
              rw [hER.1.1]
              exact flat_self _ hER.2.1
         | _ => cases he
      | _ => cases he
    | true =>
     change nextAO (h.get ad.block) h nx ad.block = _ at he
     cases hg : h.get ad.block with
     | none => rw [hg] at he; cases he
     | some ob =>
      rw [hg] at he
      cases ob with
      | sit str pos =>
       change nextB str pos h nx ad.block (nth str.data.toList pos) = _ at he
       obtain ⟨hr, ho⟩ := R.at_ hg hi
       obtain ⟨hw, hsh⟩ := ho trivial
       have hx0 : a.eval x = .pointer (some ⟨i.r, 0, none⟩) := by rw [hx', hsh, beq_true.1 hb]
       have hgo : (getObj i.r).run P w = .ok (.stringIter str pos) w := run_getObj hw (by intros; simp)
       cases hn : nth str.data.toList pos with
       | none =>
        rw [hn] at he
        cases he
        refine HVal.val (v' := .tuple ⟨[.bool false]⟩) ?_ R (Fwd.refl _ _ _) (Nat.le_refl _) (flat_self _ rfl)
        rw [hex, hx0]
        refine vrun ?_
        unfold Instr.next
        simp only
        rw [run_b hgo]
        simp only
        rw [nth_eq] at hn
        rw [if_neg]
        ·rfl
        ·have := List.getElem?_eq_none_iff.1 hn
         rw [Array.length_toList] at this
         show ¬ pos < str.data.size
         omega
       | some b =>
        rw [hn] at he
        rw [nth_eq] at hn
        have hlt : pos < str.size := by
         have := (List.getElem?_eq_some_iff.1 hn).1
         rw [Array.length_toList] at this
         exact this
        have fin : ∀ c wd, Utf8.decode str pos = (c, wd) → HVal P o a σ h nx w (.tuple ⟨[.bool true, mkPos .i64 pos, mkPos .i32 c]⟩) (h.set ad.block (.sit str (pos + wd))) nx := by
         intro c wd hdec
         have hot := R.obj_turn (o' := .sit str (pos + wd)) (ob := .stringIter str (pos + wd)) hg hi rfl rfl rfl (fun x => x) trivial ⟨set_at hw, hsh⟩
         rw [mkPos_eq, mkPos_eq]
         refine HVal.val (v' := .tuple ⟨[.bool true, goInt pos, .int .i32 c]⟩) ?_ hot.1 hot.2 (Nat.le_refl _) (flat_self _ rfl)
         rw [hex, hx0]
         refine vrun ?_
         unfold Instr.next
         simp only
         rw [run_b hgo]
         simp only [if_pos hlt, hdec]
         rw [run_b (run_setObj hw (by intros; simp))]
         rfl
        unfold nextB at he
        cases hbl : Nat.blt b.toNat 128 with
        | true => simp only [hbl] at he; cases he; exact fin _ _ (decode_ascii hn (blt_true.1 hbl))
        | false => simp only [hbl] at he; cases he; exact fin _ _ rfl
      | _ => cases he
end
end Go.Proofs.YtpnaenbpffhjfaaGreatDoor.Ev

namespace Go.Proofs.YtpnaenbpffhjfaaGreatDoor.Ev
section
variable {σ : Sg} {h : Hp} {nx : Nat} {w : World} {P : Program} {o : Oper} {a : Act}
def appendedS (zeros : Bool) (sz n : Nat) (x' : Value) (el : TypeId) : Sem (Array Value) :=
 if (!zeros) = true then Builtin.firstCells sz n x' else if n * sz = 0 then pure #[] else do
  pure (Builtin.zeroCells (← zeroValue el).cells n)
def AppN (P : Program) (w : World) (z : Bool) (x' : Value) (n b : Nat) : Prop :=
 (z = true ∧ ∃ k, x' = .int k (n : Int) ∧ n * b ≤ 281474976710656 ∧ n < 4611686018427387904) ∨ (z = false ∧ (Builtin.lenOf x').run P w = .ok n w)
structure AppFacts (P : Program) (w : World) (ts : Array TypeId) (args : Array Value) (el sz b : Nat) (z : Bool) (base' : Option Addr) (len cap : Nat) (x' : Value) (n : Nat) : Prop where
 t0 : ∃ t, ts[0]? = some t ∧ P.underlying t = some (.slice el)
 t1 : ∃ u, ts[1]? = some u ∧ isIntD (P.underlying u) = some z
 a0 : args[0]? = some (.slice base' len cap)
 a1 : args[1]? = some x'
 size : sizeT P el = some sz
 bytes : bytesT P el = some b
 n : AppN P w z x' n b
theorem bytes_info {t b : Nat} (hb : bytesT P t = some b) : ∃ i, (typeInfo t).run P w = .ok i w ∧ i.bytes = b := by
 unfold bytesT at hb
 cases hi : P.toTables.info? t with
 | none => rw [hi] at hb; cases hb
 | some i => rw [hi] at hb; cases hb; exact ⟨i, run_info hi, rfl⟩
def appTail (P : Program) (z : Bool) (sz n : Nat) (x' : Value) (el : TypeId) (base' : Option Addr) (len cap : Nat) : Sem Value :=
 if len + n ≤ cap then do
  let new ← appendedS z sz n x' el
  match base' with
  | some a => do
   storeCells (a.add (len * sz)) new.toList
   pure (.slice base' (len + n) cap)
  | x => pure (.slice base' (len + n) cap)
 else do
  let i ← typeInfo el
  if ((len + n : Nat) : Int) > IntKind.i64.max ∧ (z = true ∨ i.bytes = 0) then stuck "" else do
   let i ← typeInfo el
   if Builtin.nextslicecap (len + n) cap * i.bytes > 2 ^ 48 then stuck "" else do
    let newCap ← choose (.appendCap (len + n) cap el)
    let i ← typeInfo el
    askRoom (newCap * i.bytes)
    let old ← Builtin.firstCells sz len (.slice base' len cap)
    let new ← appendedS z sz n x' el
    let zv ← zeroValue el
    let r ← newRow el (old ++ new ++ Builtin.zeroCells zv.cells (newCap - (len + n)))
    pure (.slice (some r) (len + n) newCap)
theorem run_ite_t {α : Type} {p : Prop} [Decidable p] {x y : Sem α} (h : p) : (if p then x else y).run P w = x.run P w := by rw [if_pos h]
theorem run_ite_f {α : Type} {p : Prop} [Decidable p] {x y : Sem α} (h : ¬ p) : (if p then x else y).run P w = y.run P w := by rw [if_neg h]
theorem append_tail {ts : Array TypeId} {args : Array Value} {el sz b : Nat} {z : Bool} {base' : Option Addr} {len cap : Nat} {x' : Value} {n : Nat} {ty : TypeId}
  (A : AppFacts P w ts args el sz b z base' len cap x' n) (hgo : ¬ len + n ≤ cap → len + n < 4611686018427387904 ∧ (len + n) * b ≤ 140737488355328) {v : Value} {w1 : World}
  (hr : (appTail P z sz n x' el base' len cap).run P w = .ok v w1) : (Builtin.append_ ts ty args).run P w = .ok v w1 := by
 obtain ⟨⟨t, h0, ht⟩, ⟨u, h1, hu⟩, a0, a1, hs, hb, hn⟩ := A
 obtain ⟨i, hi, hib⟩ := bytes_info (w := w) hb
 have tail : ∀ (A B : Sem Value), (if len + n ≤ cap then do
     let new ← appendedS z sz n x' el
     match base' with
     | some a => do
      storeCells (a.add (len * sz)) new.toList
      pure (.slice base' (len + n) cap)
     | x => pure (.slice base' (len + n) cap)
    else do
     let i ← typeInfo el
     if ((len + n : Nat) : Int) > IntKind.i64.max ∧ (z = true ∨ i.bytes = 0) then A else do
      let i ← typeInfo el
      if Builtin.nextslicecap (len + n) cap * i.bytes > 2 ^ 48 then B else do
       let newCap ← choose (.appendCap (len + n) cap el)
       let i ← typeInfo el
       askRoom (newCap * i.bytes)
       let old ← Builtin.firstCells sz len (.slice base' len cap)
       let new ← appendedS z sz n x' el
       let zv ← zeroValue el
       let r ← newRow el (old ++ new ++ Builtin.zeroCells zv.cells (newCap - (len + n)))
       pure (.slice (some r) (len + n) newCap) : Sem Value).run P w = .ok v w1 := by
  intro A B
  rw [← hr]
  unfold appTail
  by_cases hc : len + n ≤ cap
  ·rw [if_pos hc, if_pos hc]
  ·rw [if_neg hc, if_neg hc]
   have hsm := (hgo hc).1
   have hmax : ¬ (((len + n : Nat) : Int) > IntKind.i64.max ∧ (z = true ∨ i.bytes = 0)) := by
    intro ⟨h, _⟩
    have : IntKind.i64.max = 9223372036854775807 := by rfl
    rw [this] at h
    omega
   have hnx : ¬ Builtin.nextslicecap (len + n) cap * i.bytes > 2 ^ 48 := by
    have h1 : Builtin.nextslicecap (len + n) cap ≤ 2 * (len + n) := Go.Room.nextslicecap_le' (by omega)
    have h2 : Builtin.nextslicecap (len + n) cap * i.bytes ≤ 2 * (len + n) * i.bytes := Nat.mul_le_mul_right _ h1
    have h3 := (hgo hc).2
    rw [hib] at h2 ⊢
    rw [Nat.mul_assoc] at h2
    omega
   rw [run_b hi, run_b hi, if_neg hmax, if_neg hmax, run_b hi, run_b hi, if_neg hnx, if_neg hnx]
 unfold Builtin.append_
 simp only [h0, h1, a0, a1]
 rw [run_b (run_und ht)]
 simp only
 rw [run_b (run_size hs)]
 obtain ⟨d, hd⟩ : ∃ d, P.underlying u = some d := by
  cases hd : P.underlying u with
  | none => rw [hd] at hu; cases hu
  | some d => exact ⟨d, rfl⟩
 rw [hd] at hu
 rw [run_b (run_und hd)]
 refine (run_b (a := z) (w1 := w) ?_).trans ?_
 ·cases d <;> cases hu <;> rfl
 rcases hn with ⟨hz, k, hx, hnb, hn2⟩ | ⟨hz, hl⟩
 ·subst hx
  have hw : IntKind.i64.wrap (n : Int) = n := wrap_pos .i64 n (by show n ≤ 9223372036854775807; omega)
  have has : (asInt (.int k (n : Int))).run P w = .ok (n : Int) w := rfl
  refine (run_ite_t hz).trans ?_
  rw [run_b has, hw]
  have hneg : ¬ ((n : Int) < 0) := by omega
  refine (run_ite_f hneg).trans ?_
  rw [run_b hi]
  have hbig : ¬ ((n : Int) * (i.bytes : Int) > 2 ^ 48) := by
   rw [hib]
   have h9 : ((n * b : Nat) : Int) ≤ ((281474976710656 : Nat) : Int) := Int.ofNat_le.2 hnb
   rw [Int.natCast_mul] at h9
   have e : (2 : Int) ^ 48 = 281474976710656 := by rfl
   rw [e]
   intro h10
   have := Int.lt_of_lt_of_le h10 h9
   exact absurd this (Int.lt_irrefl _)
  refine (run_ite_f hbig).trans ?_
  refine (run_b (a := n) (w1 := w) rfl).trans ?_
  exact tail _ _
 ·refine (run_ite_f (by rw [hz]; simp)).trans ?_
  rw [run_b hl]
  exact tail _ _
end
end Go.Proofs.YtpnaenbpffhjfaaGreatDoor.Ev

namespace Go.Proofs.YtpnaenbpffhjfaaGreatDoor.Ev
section
variable {σ : Sg} {h : Hp} {nx : Nat} {w : World} {P : Program} {o : Oper} {a : Act}
theorem loadC_length {b off n : Nat} {l : List Value} (e : loadC h b off n = some l) : l.length = n := by
 obtain ⟨t, size, root, hg, hsz, hl, hm⟩ := loadC_some e
 exact (Tr.getMany_some t n off l hm).1
theorem firstS_length {ad : Addr} {n : Nat} {l : List Value} (e : firstS ad h n = some l) : l.length = n := by
 unfold firstS at e
 cases hb : Nat.beq n 0 with
 | true => rw [hb] at e; cases e; rw [beq_true.1 hb]; rfl
 | false => rw [hb] at e; exact loadC_length e
theorem firstC_length {x : Value} {sz n : Nat} {l : List Value} (e : firstC x h sz n = some l) (hn : lenV x = some n) (hs : ∀ p c, x = .slice none p c → p = 0) : l.length = n * sz := by
 unfold firstC at e
 split at e
 ·exact firstS_length e
 ·cases e; cases hn; rename_i p c; rw [hs _ _ rfl]; simp
 ·rename_i s
  cases hn
  cases hb : Nat.beq sz 1 with
  | false => rw [hb] at e; cases e
  | true =>
   rw [hb] at e
   cases e
   rw [bytesL_eq, takeL_eq, beq_true.1 hb]
   simp [lenB]
 ·unfold firstFz at e
  split at e
  ·rename_i rows hf
   split at e
   ·rename_i hra
    cases e
    have hm : rows.length = n := by
     change lenO (fzO _) = some n at hn
     rw [hf] at hn
     cases hn; rfl
    rw [takeL_eq, List.length_take, flatC_length (rowsAre_iff.1 hra), hm]
    simp
   ·cases e
  ·cases e
 ·cases e
theorem srcO_some {x : Value} {sz n : Nat} {l : List Value} (e : srcO x h sz = some (n, l)) : lenV x = some n ∧ firstC x h sz n = some l := by
 unfold srcO at e
 cases hl : lenV x with
 | none => rw [hl] at e; cases e
 | some m =>
  rw [hl] at e
  simp only at e
  cases hf : firstC x h sz m with
  | none => rw [hf] at e; cases e
  | some l' => rw [hf] at e; cases e; exact ⟨rfl, hf⟩
theorem zerosO_some {el sz : Nat} {x : Value} {n : Nat} {l : List Value} (e : zerosO P el sz x = some (n, l)) : ∃ k z, x = .int k (n : Int) ∧ n ≤ 100000 ∧ zcT P el sz = some z ∧ l = repL n z := by
 unfold zerosO at e
 cases hb : boundV x 100000 with
 | none => rw [hb] at e; cases e
 | some m =>
  cases hz : zcT P el sz with
  | none => simp only [hb, hz] at e; cases e
  | some z =>
   simp only [hb, hz] at e
   cases e
   obtain ⟨k, h1, h2⟩ := boundV_some hb
   exact ⟨k, z, h1, h2, rfl, rfl⟩
theorem appSrc_good (R : Rel σ h nx w) {u el sz n b : Nat} {x x' : Value} {new : List Value} {z : Bool} (hz : isIntD (P.underlying u) = some z) (e : appSrc P u el sz x h = some (n, new)) (hx : VR σ x x') (hb : n * b ≤ 281474976710656) :
  new.length = n * sz ∧ AppN P w z x' n b ∧ ∀ w2 : World, Rel σ h nx w2 → ∃ new', (appendedS z sz n x' el).run P w2 = .ok new'.toArray w2 ∧ VRL σ new new' := by
 unfold appSrc at e
 rw [hz] at e
 cases z with
 | true =>
  simp only at e
  obtain ⟨k, zv, h1, h2, h3, h4⟩ := zerosO_some e
  subst h1 h4
  obtain ⟨zz, hz1, hz2, hz3⟩ := zcT_some h3
  have hfl := zero_flat hz1
  refine ⟨by rw [repL_length, hz3], .inl ⟨rfl, k, hx.int, hb, by omega⟩, fun w2 R2 => ?_⟩
  refine ⟨repL n zv, ?_, flatL_self _ (flatL_rep zv (by rw [hz2]; exact (flatL_cells hfl).2) n)⟩
  unfold appendedS
  rw [if_neg (by simp)]
  by_cases h0 : n * sz = 0
  ·rw [if_pos h0]
   have : repL n zv = [] := List.eq_nil_of_length_eq_zero (by rw [repL_length, hz3, h0])
   rw [this]; rfl
  ·rw [if_neg h0, run_b (run_zero hz1)]
   have := zeroCells_eq hfl n
   rw [← hz2] at this
   show Result.ok _ w2 = _
   rw [← this]
 | false =>
  simp only at e
  obtain ⟨h1, h2⟩ := srcO_some e
  have hnm : ∀ r, x ≠ .map r := by rintro r rfl; cases h2
  refine ⟨firstC_length h2 h1 (by rintro p c rfl; exact (hx.nilslice).1), .inr ⟨rfl, len_some h1 hx hnm⟩, fun w2 R2 => ?_⟩
  obtain ⟨l', h3, h4⟩ := firstC_good (P := P) R2 h2 h1 (Nat.le_refl _) hx
  exact ⟨l', by unfold appendedS; rw [if_pos (by rfl)]; exact h3, h4⟩

theorem tail_same {z : Bool} {sz n : Nat} {x' : Value} {el : TypeId} {base' : Option Addr} {len cap : Nat} (hc : len + n ≤ cap) {new' : List Value}
  (hn : (appendedS z sz n x' el).run P w = .ok new'.toArray w) {w1 : World} (hs : ∀ ad, base' = some ad → (storeCells (ad.add (len * sz)) new').run P w = .ok () w1) (h0 : base' = none → w1 = w) :
  (appTail P z sz n x' el base' len cap).run P w = .ok (.slice base' (len + n) cap) w1 := by
 unfold appTail
 rw [if_pos hc, run_b hn]
 cases base' with
 | none => rw [h0 rfl]; rfl
 | some ad => simp only; rw [run_b (hs ad rfl)]; rfl
theorem run_askRoom (n : Nat) : (askRoom n).run P w = .ok () w := by
 unfold askRoom
 split <;> rfl
theorem tail_grow {z : Bool} {sz n b : Nat} {x' : Value} {el : TypeId} {base' : Option Addr} {len cap : Nat} (hc : ¬ len + n ≤ cap) (hsm : len + n ≤ 100000000) (hb : bytesT P el = some b) (hbb : (len + n) * b ≤ 100000000)
  {zl : List Value} (hz : zcT P el sz = some zl) {old' new' : List Value}
  (ho : (Builtin.firstCells sz len (.slice base' len cap)).run P { w with drawn := w.drawn + 1 } = .ok old'.toArray { w with drawn := w.drawn + 1 })
  (hn : (appendedS z sz n x' el).run P { w with drawn := w.drawn + 1 } = .ok new'.toArray { w with drawn := w.drawn + 1 }) :
  ∃ c2 rest, len + n ≤ c2 ∧ rest.length = (c2 - (len + n)) * sz ∧
   (appTail P z sz n x' el base' len cap).run P w = .ok (.slice (some ⟨w.heap.size, 0, none⟩) (len + n) c2) { w with drawn := w.drawn + 1, heap := w.heap.push (.cells (old' ++ (new' ++ rest)).toArray el) } := by
 obtain ⟨i, hi, hib⟩ := bytes_info (P := P) (w := w) hb
 obtain ⟨zv, hz1, hz2, hz3⟩ := zcT_some hz
 have hfl := zero_flat hz1
 let c2 := (Question.appendCap (len + n) cap el).cut (w.tape w.drawn (.appendCap (len + n) cap el))
 have hc2 : len + n ≤ c2 := Nat.le_add_right _ _
 refine ⟨c2, repL (c2 - (len + n)) (cellsL zv), hc2, by rw [repL_length, ← hz2, hz3], ?_⟩
 have hmax : ¬ (((len + n : Nat) : Int) > IntKind.i64.max ∧ (z = true ∨ i.bytes = 0)) := by
  intro ⟨h, _⟩
  have : IntKind.i64.max = 9223372036854775807 := by rfl
  rw [this] at h
  omega
 have hnx : ¬ Builtin.nextslicecap (len + n) cap * i.bytes > 2 ^ 48 := by
  have h1 : Builtin.nextslicecap (len + n) cap ≤ 2 * (len + n) := Go.Room.nextslicecap_le' (by omega)
  have h2 : Builtin.nextslicecap (len + n) cap * i.bytes ≤ 2 * (len + n) * i.bytes := Nat.mul_le_mul_right _ h1
  rw [hib] at h2 ⊢
  rw [Nat.mul_assoc] at h2
  omega
 have hch : (choose (.appendCap (len + n) cap el)).run P w = .ok c2 { w with drawn := w.drawn + 1 } := rfl
 obtain ⟨i2, hi2, hib2⟩ := bytes_info (P := P) (w := { w with drawn := w.drawn + 1 }) hb
 unfold appTail
 rw [if_neg hc, run_b hi, if_neg hmax, run_b hi, if_neg hnx, run_b hch, run_b hi2, run_b (run_askRoom _), run_b ho, run_b hn, run_b (run_zero hz1)]
 have hzc : Builtin.zeroCells zv.cells (c2 - (len + n)) = (repL (c2 - (len + n)) (cellsL zv)).toArray := by
  apply Array.toList_inj.1
  rw [zeroCells_eq hfl]
 rw [hzc]
 have hrow : (newRow el (old'.toArray ++ new'.toArray ++ (repL (c2 - (len + n)) (cellsL zv)).toArray)).run P { w with drawn := w.drawn + 1 } =
   .ok ⟨w.heap.size, 0, none⟩ { w with drawn := w.drawn + 1, heap := w.heap.push (.cells (old' ++ (new' ++ repL (c2 - (len + n)) (cellsL zv))).toArray el) } := by
  show Result.ok _ _ = _
  simp
 rw [run_b hrow]
 rfl
end
end Go.Proofs.YtpnaenbpffhjfaaGreatDoor.Ev

namespace Go.Proofs.YtpnaenbpffhjfaaGreatDoor.Ev
section
variable {σ : Sg} {h : Hp} {nx : Nat} {w : World} {P : Program} {o : Oper} {a : Act}
theorem push_join (R : Rel σ h nx w) {id root L al nx' : Nat} (hr0 : root ≠ 0) (hroot : h.get root = some (.fam L al)) {h1 : Hp} (hh1 : ∀ c, c ≠ root → h1.get c = h.get c)
  (hroot1 : h1.get root = some (.fam id al)) (hid : nx ≤ id) (hlt : id < nx') {cs cs' rest : List Value} (hv : VRL σ cs cs') {el : TypeId} {bm : Bool} {T : Nat} (hbm : bm = true → el = T) {m c2 sz : Nat} (hlen : cs.length = m * sz)
  (hrest : rest.length = (c2 - m) * sz) (hmc : m ≤ c2) (hsz : 1 ≤ sz) :
  ∃ σ', Rel σ' (h1.set id (.cells (rowM bm T cs) cs.length root)) nx' { w with drawn := w.drawn + 1, heap := w.heap.push (.cells (cs' ++ rest).toArray el) } ∧
   Fwd σ h w σ' (h1.set id (.cells (rowM bm T cs) cs.length root)) { w with drawn := w.drawn + 1, heap := w.heap.push (.cells (cs' ++ rest).toArray el) } ∧
   VR σ' (sliceNew id sz m) (.slice (some ⟨w.heap.size, 0, none⟩) m c2) := by
 have hn := R.new id hid
 let i : BI := { r := w.heap.size, shift := 0, fin := c2 * sz, esz := sz }
 have hlen' : cs'.length = m * sz := by rw [← hv.length, hlen]
 have htot : (cs' ++ rest).length = c2 * sz := by
  rw [List.length_append, hlen', hrest, ← Nat.add_mul]
  congr 1; omega
 have hold : ∀ r, r < w.heap.size → (w.heap.push (Obj.cells (cs' ++ rest).toArray el))[r]? = w.heap[r]? := fun r hr => by rw [Array.getElem?_push, if_neg (by omega)]
 have J := R.join (id := id) (nx' := nx') hr0 hroot hh1 hroot1 hn.1 hn.2 hid hlt (w1 := { w with drawn := w.drawn + 1, heap := w.heap.push (.cells (cs' ++ rest).toArray el) }) rfl rfl rfl (by simp) (ao := .cells (rowM bm T cs) cs.length root) rfl (i := i)
  (by show w.heap.size < _; simp) (fun r hr _ => hold r hr) (.inr (Nat.le_refl _))
  (fun b ob j hb hl hj => by
   obtain ⟨h1, h2⟩ := R.at_ hb hj
   exact (h2 hl).world (hold _ h1))
  (by
   refine ⟨(cs' ++ rest).toArray, el, (0, 0), by simp [i], ?_, ?_, fun k _ => by simp, fun k v hk hkv => ?_, fun _ => rfl, tyE_rowM (fun x => ⟨hbm x, rfl⟩) cs⟩
   ·show 0 + cs.length ≤ c2 * sz
    rw [hlen, Nat.zero_add]; exact Nat.mul_le_mul_right _ hmc
   ·show c2 * sz ≤ _
    rw [List.size_toArray, htot]; exact Nat.le_refl _
   ·rw [rowM_get bm T cs hk] at hkv
    obtain ⟨v', h1, h2⟩ := hv.get k v hkv
    refine ⟨v', ?_, h2.mono (Sg.le_add hn.1 i).fn⟩
    show (cs' ++ rest).toArray[0 + k]? = some v'
    rw [Nat.zero_add, List.getElem?_toArray, List.getElem?_append_left (List.getElem?_eq_some_iff.1 h1).1]
    exact h1)
  (fun b ob j hb hl hj hr => by
   have := (R.at_ hb hj).1
   have e : j.r = w.heap.size := hr
   omega)
  (fun b ob j hb hl hj hr => by
   have := (R.at_ hb hj).1
   have e : j.r = w.heap.size := hr
   omega)
 refine ⟨_, J.1, J.2, ?_⟩
 have := VR.slo (σ := Sg.add σ id i) id 0 i m m sz c2 (Sg.add_eq _ _ _) rfl hsz hmc (by show 0 + 0 + c2 * sz = c2 * sz; omega)
 exact this
theorem fresh_good (R : Rel σ h nx w) (hpos : 1 ≤ nx) {cs cs' rest : List Value} (hv : VRL σ cs cs') {el : TypeId} {m c2 sz : Nat} (hlen : cs.length = m * sz)
  (hrest : rest.length = (c2 - m) * sz) (hmc : m ≤ c2) (hsz : 1 ≤ sz) {v : Value} {h' : Hp} {nx' : Nat} (e : freshA h nx el sz m cs = .ok v h' nx') :
  nx ≤ nx' ∧ ∃ σ', Rel σ' h' nx' { w with drawn := w.drawn + 1, heap := w.heap.push (.cells (cs' ++ rest).toArray el) } ∧
   Fwd σ h w σ' h' { w with drawn := w.drawn + 1, heap := w.heap.push (.cells (cs' ++ rest).toArray el) } ∧ VR σ' v (.slice (some ⟨w.heap.size, 0, none⟩) m c2) := by
 cases e
 obtain ⟨R1, F1⟩ := R.family (L := nx + 1) (Nat.lt_succ_self _)
 have hn := R.new (nx + 1) (by omega)
 obtain ⟨σ', a1, a2, a3⟩ := push_join R1 (id := nx + 1) (root := nx) (L := nx + 1) (al := nx + 1) (nx' := nx + 2) (by omega) (Tr.get_set_eq _ _ _) (fun _ _ => rfl) (Tr.get_set_eq _ _ _) (Nat.le_refl _) (by omega) hv (el := el) (bm := true) (T := el) (fun _ => rfl) hlen hrest hmc hsz
 exact ⟨by simp only [Nat.succ_eq_add_one]; omega, σ', a1, F1.trans a2, a3⟩
theorem place_join (R : Rel σ h nx w) {b root size : Nat} {t : Tr Value} (hg : h.get b = some (.cells t size root)) (hlat : isLatest h b root = true) {i : BI} (hi : σ b = some i)
  {off len n cap sz : Nat} (hoff : off + len * sz = size) {old new new' : List Value} (hold : loadC h b off (len * sz) = some old) (hv : VRL σ new new') (hcv : cellsV new = true) (hnl : new.length = n * sz)
  (hn0 : n ≠ 0) (hsz : 1 ≤ sz) (hc : len + n ≤ cap) (hfin : i.shift + off + cap * sz = i.fin) {bm : Bool} {T : Nat} (hbm : bm = true → t.get size = some (.int .i64 (.ofNat T)) ∧ off = 0) {v : Value} {h' : Hp} {nx' : Nat} (e : grownA bm T h nx root sz (len + n) (old ++ new) = .ok v h' nx') :
  nx ≤ nx' ∧ ∃ w1 σ', (storeCells ⟨i.r, i.shift + off + len * sz, none⟩ new').run P w = .ok () w1 ∧ Rel σ' h' nx' w1 ∧ Fwd σ h w σ' h' w1 ∧
   VR σ' v (.slice (some ⟨i.r, i.shift + off, none⟩) (len + n) cap) := by
 obtain ⟨hr0, al, hroot, hal⟩ := isLatest_some hlat
 have hlb : live h b (.cells t size root) := by
  show liveB h b root = true
  rw [liveB_ne hr0, hroot]
  exact ble_true.2 hal
 obtain ⟨cs, el, fr, hcs, h1, h2, h3, h4⟩ := R.cells hg hlb hi
 have hol : old.length = len * sz := loadC_length hold
 have hmul : (len + n) * sz = len * sz + n * sz := Nat.add_mul _ _ _
 have hle : (len + n) * sz ≤ cap * sz := Nat.mul_le_mul_right _ hc
 have hns : 1 ≤ n * sz := Nat.mul_pos (by omega) (by omega)
 have hvl := hv.length
 obtain ⟨cs', hrun, hsz', hk⟩ := run_storeCells P i.r (i.shift + off + len * sz) el fr new' 0 cs w hcs (by omega) h3 (cellsV_VRL hv hcv)
 have hr : i.r < w.heap.size := (R.at_ hg hi).1
 have hn := R.new nx (Nat.le_refl _)
 unfold grownA joinFam at e
 rw [hroot] at e
 cases e
 let i' : BI := { r := i.r, shift := i.shift + off, fin := i.fin, esz := sz }
 let w1 : World := { w with heap := w.heap.setIfInBounds i.r (.cells cs' el fr) }
 have hat : w1.heap[i.r]? = some (.cells cs' el fr) := by simp [w1, Array.getElem?_setIfInBounds, hr]
 have hother : ∀ r, r ≠ i.r → w1.heap[r]? = w.heap[r]? := fun r hne => by
  show (w.heap.setIfInBounds i.r _)[r]? = _
  rw [Array.getElem?_setIfInBounds, if_neg (Ne.symm hne)]
 -- whoever else reads this real block ends ahead of what is written
 have hends : ∀ c ob j, h.get c = some ob → live h c ob → σ c = some j → j.r = i.r → famOf ob = root ∧ j.shift + sizeOfA ob ≤ i.shift + size := by
  intro c ob j hcg hcl hcj hcr
  by_cases ecb : c = b
  ·subst ecb
   rw [hg] at hcg; cases hcg
   rw [hi] at hcj; cases hcj
   exact ⟨rfl, Nat.le_refl _⟩
  ·obtain ⟨f1, f2⟩ := R.sep c b ob _ j i hcg hg hcl hlb hcj hi ecb hcr
   refine ⟨f1, ?_⟩
   rcases R.lat c ob b _ j i al hcg hcl f2 (by rw [f1]; exact hroot) hg hlb f1.symm hcj hi hcr ecb with f3 | f3
   ·exact f3
   ·exfalso
    have f4 : i.fin = i.shift + size := f3
    omega
 have J := R.join (id := nx) (nx' := nx + 1) (h1 := h.set root (.fam nx al)) hr0 hroot (fun c hc => Tr.get_set_ne _ _ (Ne.symm hc)) (Tr.get_set_eq _ _ _) hn.1 hn.2 (Nat.le_refl _) (Nat.lt_succ_self _)
  (w1 := w1) rfl rfl rfl (by simp [w1]) (ao := .cells (rowM bm T (old ++ new)) (old ++ new).length root) rfl (i := i')
  (by simp [w1, i']; exact hr) (fun r _ hne => hother r hne) (.inl ⟨b, _, i, hg, hi, rfl, fun x => x⟩)
  (fun c ob j hcg hcl hcj => by
   obtain ⟨g1, g2⟩ := R.at_ hcg hcj
   by_cases er : j.r = i.r
   ·obtain ⟨f1, f2⟩ := hends c ob j hcg hcl hcj er
    have g3 := g2 hcl
    cases ob with
    | cells t2 s2 r2 =>
     obtain ⟨csx, elx, frx, x1, x2, x3, x4, x5, x6⟩ := g3
     rw [er, hcs] at x1
     cases x1
     refine ⟨cs', el, fr, by rw [er]; exact hat, x2, by omega, by rw [hsz']; exact h3, fun k v hks hkv => ?_, x6⟩
     obtain ⟨v', y1, y2⟩ := x5 k v hks hkv
     refine ⟨v', ?_, y2⟩
     have f5 : j.shift + s2 ≤ i.shift + size := f2
     rw [hk, if_neg (by omega)]
     exact y1
    | _ => exact (hr0 f1.symm).elim
   ·exact (g2 hcl).world (hother _ er))
  (by
   refine ⟨cs', el, fr, hat, ?_, ?_, by rw [hsz']; exact h3, fun k v hks hkv => ?_, fun x => (hr0 x).elim, tyE_rowM (fun x => by
    obtain ⟨b1, b2⟩ := R.tyE hg hlb hi hcs T (hbm x).1
    exact ⟨b1, by show i.shift + off = 0; rw [b2, (hbm x).2]⟩) _⟩
   ·show i.shift + off + (old ++ new).length ≤ i.fin
    rw [List.length_append]; omega
   ·show i.fin ≤ cs'.size
    omega
   ·rw [rowM_get bm T _ hks] at hkv
    show ∃ v', cs'[i.shift + off + k]? = some v' ∧ _
    rw [List.length_append] at hks
    by_cases hko : k < old.length
    ·rw [List.getElem?_append_left hko] at hkv
     obtain ⟨t3, s3, r3, z1, z2, z3, z4⟩ := loadC_some hold
     rw [hg] at z1; cases z1
     have z5 := (Tr.getMany_some _ _ _ _ z4).2 k (by omega)
     obtain ⟨v', y1, y2⟩ := h4 (off + k) v (by omega) (by rw [z5]; exact hkv)
     refine ⟨v', ?_, y2.mono (Sg.le_add hn.1 i').fn⟩
     rw [hk, if_neg (by omega), ← y1]
     congr 1; omega
    ·rw [List.getElem?_append_right (by omega)] at hkv
     obtain ⟨v', y1, y2⟩ := hv.get _ _ hkv
     refine ⟨v', ?_, y2.mono (Sg.le_add hn.1 i').fn⟩
     rw [hk, if_pos (by omega), ← y1]
     congr 1; omega)
  (fun c ob j hcg hcl hcj hcr => (hends c ob j hcg hcl hcj hcr).1)
  (fun c ob j hcg hcl hcj hcr => by
   left
   have f2 := (hends c ob j hcg hcl hcj hcr).2
   show j.shift + sizeOfA ob ≤ i.shift + off + (old ++ new).length
   rw [List.length_append]; omega)
 refine ⟨by omega, w1, _, hrun, J.1, J.2, ?_⟩
 exact VR.slo (σ := Sg.add σ nx i') nx 0 i' (len + n) (len + n) sz cap (Sg.add_eq _ _ _) rfl hsz hc (by show i.shift + off + 0 + cap * sz = i.fin; omega)
theorem Rel.kill (R : Rel σ h nx w) {root L al : Nat} (hr0 : root ≠ 0) (hroot : h.get root = some (.fam L al)) : Rel σ (h.set root (.fam L nx)) nx w ∧ ∀ c ob, h.get c = some ob → famOf ob = root → ¬ live (h.set root (.fam L nx)) c ob := by
 have hlt : ∀ c ob, h.get c = some ob → c < nx := fun c ob hc => by
  rcases Nat.lt_or_ge c nx with h' | h'
  ·exact h'
  ·rw [(R.new c h').2] at hc; cases hc
 have hdead : ∀ c ob, h.get c = some ob → famOf ob = root → ¬ live (h.set root (.fam L nx)) c ob := by
  intro c ob hc hf hl
  cases ob with
  | cells t s rt =>
   change rt = root at hf
   subst hf
   change liveB _ c rt = true at hl
   rw [liveB_ne hr0, Tr.get_set_eq] at hl
   have h1 : nx ≤ c := ble_true.1 hl
   have := hlt c _ hc
   omega
  | _ => exact hr0 hf.symm
 have hget : ∀ c ob, (h.set root (.fam L nx)).get c = some ob → (c = root ∧ ob = .fam L nx) ∨ (c ≠ root ∧ h.get c = some ob) := by
  intro c ob hc
  rw [Tr.get_set] at hc
  by_cases e : root = c
  ·rw [if_pos e] at hc; cases hc; exact .inl ⟨e.symm, rfl⟩
  ·rw [if_neg e] at hc; exact .inr ⟨Ne.symm e, hc⟩
 have hlive : ∀ c ob, h.get c = some ob → live (h.set root (.fam L nx)) c ob → live h c ob ∧ famOf ob ≠ root := by
  intro c ob hc hl
  have hne : famOf ob ≠ root := fun e => hdead c ob hc e hl
  exact ⟨(live_congr (by rw [Tr.get_set_ne _ _ (Ne.symm hne)])).1 hl, hne⟩
 have hsr : σ root = none := R.fams root L al hroot
 refine ⟨⟨⟨?_, ?_, ?_, ?_, ?_, ?_, ?_, R.gl⟩, R.fz.less (fun _ _ h => h) fun r ⟨b, p, i, hb, hs, he, hnt⟩ => by
  rcases hget b p hb with ⟨e, _⟩ | ⟨_, hb'⟩
  ·rw [e, hsr] at hs; cases hs
  ·exact ⟨b, p, i, hb', hs, he, hnt⟩⟩, hdead⟩
 ·intro c ob hc
  rcases hget c ob hc with ⟨_, e⟩ | ⟨_, hc'⟩
  ·subst e; exact .inl trivial
  ·rcases R.obj c ob hc' with h1 | ⟨j, hj, h1, h2⟩
   ·exact .inl h1
   ·exact .inr ⟨j, hj, h1, fun hl => h2 (hlive c ob hc' hl).1⟩
 ·intro c hc
  have : c ≠ root := by have := hlt root _ hroot; omega
  exact ⟨(R.new c hc).1, by rw [Tr.get_set_ne _ _ (Ne.symm this)]; exact (R.new c hc).2⟩
 ·intro c K a hc
  rcases hget c _ hc with ⟨e, _⟩ | ⟨_, hc'⟩
  ·rw [e]; exact hsr
  ·exact R.fams c K a hc'
 ·intro b1 b2 o1 o2 i1 i2 g1 g2 l1 l2 s1 s2 hne hr
  rcases hget b1 o1 g1 with ⟨e, _⟩ | ⟨_, g1'⟩
  ·rw [e, hsr] at s1; cases s1
  ·rcases hget b2 o2 g2 with ⟨e, _⟩ | ⟨_, g2'⟩
   ·rw [e, hsr] at s2; cases s2
   ·exact R.sep b1 b2 o1 o2 i1 i2 g1' g2' (hlive _ _ g1' l1).1 (hlive _ _ g2' l2).1 s1 s2 hne hr
 ·intro b ob K oK j jK a hb hl hfo hrt hK hlK hfK hs hsK hr hne
  rcases hget b ob hb with ⟨e, _⟩ | ⟨_, hb'⟩
  ·rw [e, hsr] at hs; cases hs
  ·rcases hget K oK hK with ⟨e, _⟩ | ⟨_, hK'⟩
   ·rw [e, hsr] at hsK; cases hsK
   ·obtain ⟨l1, hne1⟩ := hlive b ob hb' hl
    rcases hget _ _ hrt with ⟨e, _⟩ | ⟨_, hrt'⟩
    ·exact (hne1 e).elim
    ·exact R.lat b ob K oK j jK a hb' l1 hfo hrt' hK' (hlive K oK hK' hlK).1 hfK hs hsK hr hne
 ·intro b ob K a hb hfo hrt
  rcases hget b ob hb with ⟨_, e⟩ | ⟨_, hb'⟩
  ·subst e; exact (hfo rfl).elim
  ·rcases hget _ _ hrt with ⟨e, e2⟩ | ⟨_, hrt'⟩
   ·cases e2
    exact R.mx b ob L al hb' hfo (by rw [e]; exact hroot)
   ·exact R.mx b ob K a hb' hfo hrt'
 ·intro b hb
  obtain ⟨a1, a2, a3⟩ := R.rsv b hb
  have : b ≠ root := by intro e; rw [e, hroot] at a3; cases a3
  exact ⟨a1, a2, by rw [Tr.get_set_ne _ _ (Ne.symm this)]; exact a3⟩
theorem kill_good (R : Rel σ h nx w) {b root size : Nat} {t : Tr Value} (hg : h.get b = some (.cells t size root)) (hr0 : root ≠ 0) (hlb : liveB h b root = true) {i : BI} (hi : σ b = some i) :
  ∃ σ1, Rel σ1 ((h.set root (.fam nx nx)).set nx (.cells t size root)) (nx + 1) w ∧ Fwd σ h w σ1 ((h.set root (.fam nx nx)).set nx (.cells t size root)) w ∧ σ1 nx = some i ∧
   ((h.set root (.fam nx nx)).set nx (.cells t size root)).get nx = some (.cells t size root) ∧ isLatest ((h.set root (.fam nx nx)).set nx (.cells t size root)) nx root = true ∧ liveB ((h.set root (.fam nx nx)).set nx (.cells t size root)) nx root = true := by
 have hn := R.new nx (Nat.le_refl _)
 obtain ⟨L, al, hroot⟩ : ∃ L al, h.get root = some (.fam L al) := by
  rw [liveB_ne hr0] at hlb
  cases hf : famO (h.get root) with
  | none => rw [hf] at hlb; cases hlb
  | some f => exact ⟨f.1, f.2, famO_of hf⟩
 have hbr : b ≠ root := by intro e; rw [e, hroot] at hg; cases hg
 have hnr : nx ≠ root := by intro e; rw [e, hroot] at hn; cases hn.2
 obtain ⟨Rk, hdead⟩ := R.kill hr0 hroot
 have hor := (R.at_ hg hi).2 hlb
 have hgk : (h.set root (.fam L nx)).get b = some (.cells t size root) := by rw [Tr.get_set_ne _ _ (Ne.symm hbr)]; exact hg
 have hback : ∀ c ob, (h.set root (.fam L nx)).get c = some ob → ¬ isFam ob → h.get c = some ob := by
  intro c ob hc hnf
  rw [Tr.get_set] at hc
  by_cases e : root = c
  ·rw [if_pos e] at hc; cases hc; exact (hnf trivial).elim
  ·rw [if_neg e] at hc; exact hc
 have hsepk : ∀ c ob j, (h.set root (.fam L nx)).get c = some ob → live (h.set root (.fam L nx)) c ob → σ c = some j → j.r = i.r → False := by
  intro c ob j hc hl hj hr
  have hc' := hback c ob hc (Rk.notFam hc hj)
  by_cases e : c = b
  ·subst e
   rw [hg] at hc'; cases hc'
   exact hdead c _ hg rfl hl
  ·have hlh : live h c ob := by
    have hne : famOf ob ≠ root := fun e => hdead c ob hc' e hl
    exact (live_congr (by rw [Tr.get_set_ne _ _ (Ne.symm hne)])).1 hl
   have := (R.sep c b ob _ j i hc' hg hlh hlb hj hi e hr).1
   exact hdead c ob hc' this hl
 have J := Rk.join (id := nx) (nx' := nx + 1) (h1 := h.set root (.fam nx nx)) (al := nx) hr0 (Tr.get_set_eq _ _ _) (fun c hc => by rw [Tr.get_set_ne _ _ (Ne.symm hc), Tr.get_set_ne _ _ (Ne.symm hc)]) (Tr.get_set_eq _ _ _) hn.1
  (by rw [Tr.get_set_ne _ _ (Ne.symm hnr)]; exact hn.2) (Nat.le_refl _) (Nat.lt_succ_self _) (w1 := w) rfl rfl rfl (Nat.le_refl _) (ao := .cells t size root) rfl (i := i) (R.at_ hg hi).1 (fun _ _ _ => rfl) (.inl ⟨b, _, i, hgk, hi, rfl, fun x => x⟩)
  (fun c ob j hc hl hj => (Rk.at_ hc hj).2 hl) (hor.mono (Sg.le_add hn.1 i).fn) (fun c ob j hc hl hj hr => (hsepk c ob j hc hl hj hr).elim) (fun c ob j hc hl hj hr => (hsepk c ob j hc hl hj hr).elim)
 have hrt : ((h.set root (.fam nx nx)).set nx (.cells t size root)).get root = some (.fam nx nx) := by rw [Tr.get_set_ne _ _ hnr, Tr.get_set_eq]
 have hIm : ∀ r, Im σ (h.set root (.fam L nx)) r → Im σ h r := by
  rintro r ⟨c, ob, j, hc, hj, hr⟩
  exact ⟨c, ob, j, hback c ob hc (Rk.notFam hc hj), hj, hr⟩
 have hIt : ∀ r, It σ (h.set root (.fam L nx)) r → It σ h r := by
  rintro r ⟨c, ob, j, hc, hj, hr, hnt⟩
  exact ⟨c, ob, j, hback c ob hc (Rk.notFam hc hj), hj, hr, hnt⟩
 refine ⟨_, J.1, ⟨J.2.sub, rfl, rfl, rfl, Nat.le_refl _, fun r hr => (J.2.image r hr).imp (hIm r) id, fun r hr => (J.2.imt r hr).imp (hIt r) id, fun _ _ _ => rfl, fun _ _ h => .inl h⟩, Sg.add_eq _ _ _, Tr.get_set_eq _ _ _, ?_, ?_⟩
 ·unfold isLatest
  rw [beq_false.2 hr0, hrt]
  show (Nat.beq nx nx && Nat.ble nx nx) = true
  rw [beq_true.2 rfl, ble_true.2 (Nat.le_refl _)]; rfl
 ·rw [liveB_ne hr0, hrt]
  exact ble_true.2 (Nat.le_refl _)
end
end Go.Proofs.YtpnaenbpffhjfaaGreatDoor.Ev

namespace Go.Proofs.YtpnaenbpffhjfaaGreatDoor.Ev
section
variable {σ : Sg} {h : Hp} {nx : Nat} {w : World} {P : Program} {o : Oper} {a : Act}
theorem appSrc_int {u el sz : Nat} {x : Value} {q : Nat × List Value} (e : appSrc P u el sz x h = some q) : ∃ z, isIntD (P.underlying u) = some z := by
 unfold appSrc at e
 cases hz : isIntD (P.underlying u) with
 | none => rw [hz] at e; cases e
 | some z => exact ⟨z, rfl⟩
theorem storedA_ok {r : HO} {v v' : Value} {nx nx' : Nat} {h' : Hp} (e : storedA r v nx = .ok v' h' nx') : r = .ok h' ∧ v' = v ∧ nx' = nx := by
 unfold storedA at e
 cases r with
 | no => cases e
 | ok h1 => cases e; exact ⟨rfl, rfl, rfl⟩
theorem freshO_ok {old : Option (List Value)} {new : List Value} {Ty sz m : Nat} {v : Value} {h' : Hp} {nx' : Nat} (e : freshO old h nx Ty sz m new = .ok v h' nx') : ∃ l, old = some l ∧ freshA h nx Ty sz m (l ++ new) = .ok v h' nx' := by
 cases old with
 | none => cases e
 | some l => exact ⟨l, rfl, e⟩
theorem grownO_ok {old : Option (List Value)} {new : List Value} {bm : Bool} {Ty sz m root : Nat} {v : Value} {h' : Hp} {nx' : Nat} (e : grownO bm Ty old h nx root sz m new = .ok v h' nx') : ∃ l, old = some l ∧ grownA bm Ty h nx root sz m (l ++ new) = .ok v h' nx' := by
 cases old with
 | none => cases e
 | some l => exact ⟨l, rfl, e⟩
theorem openAO_ok {ad : Addr} {Ty used sz m : Nat} {new : List Value} {v : Value} {h' : Hp} {nx' : Nat} (e : openAO (h.get ad.block) h nx Ty ad used sz m new = .ok v h' nx') :
  ∃ t size root, h.get ad.block = some (.cells t size root) ∧ ad.off + used = size ∧ cellsV new = true ∧
   ((isLatest h ad.block root = true ∧ grownO (markIs (t.get size) Ty && Nat.beq ad.off 0) Ty (loadC h ad.block ad.off used) h nx root sz m new = .ok v h' nx') ∨ (root ≠ 0 ∧ killO (markIs (t.get size) Ty && Nat.beq ad.off 0) Ty (loadC h ad.block ad.off used) t size root h nx sz m new = .ok v h' nx')) := by
 cases hg : h.get ad.block with
 | none => rw [hg] at e; cases e
 | some ob =>
  rw [hg] at e
  cases ob with
  | cells t size root =>
   change (match Nat.beq (ad.off + used) size && cellsV new with | true => openLate (isLatest h ad.block root) t size root h nx Ty ad used sz m new | false => H.no "append: not at the end" "") = _ at e
   cases hf : (Nat.beq (ad.off + used) size && cellsV new) with
   | false => rw [hf] at e; cases e
   | true =>
    rw [hf] at e
    simp only [Bool.and_eq_true] at hf
    refine ⟨t, size, root, rfl, beq_true.1 hf.1, hf.2, ?_⟩
    cases hl : isLatest h ad.block root with
    | true => rw [hl] at e; exact .inl ⟨rfl, e⟩
    | false =>
     rw [hl] at e
     change (match Nat.beq root 0 with | true => H.no "append: not the latest" "" | false => killO (markIs (t.get size) Ty && Nat.beq ad.off 0) Ty (loadC h ad.block ad.off used) t size root h nx sz m new) = _ at e
     cases hr : Nat.beq root 0 with
     | true => rw [hr] at e; cases e
     | false => rw [hr] at e; exact .inr ⟨beq_false.1 hr, e⟩
  | _ => cases e
theorem hspec_append {c : Call} (ho : o.op = .call c) (hc : c.callee = .builtin .append) (hpos : 1 ≤ nx) {tm : Tr Value} {nt : Nat} (R : Rel σ h nx w) (T : TR σ nt tm a.tmps) :
  HDone P o a σ h nx w (evAppend P c.argTypes.toList ((cOps c.args.toList).f tm) h nx) := by
 have hex : execOp a.eval o = (do pure (Next.value (← Builtin.append_ c.argTypes o.type (c.args.map a.eval)))) := by rw [exec_builtin ho hc]; rfl
 cases he : evAppend P c.argTypes.toList ((cOps c.args.toList).f tm) h nx with
 | no _ _ => trivial
 | ok v h' nx' =>
  unfold evAppend at he
  split at he
  ·rename_i t u tr s x xr hts hxs
   cases hst : sliceT P t with
   | none => simp only [hst] at he; cases he
   | some q =>
    obtain ⟨el, ag, sz⟩ := q
    simp only [hst] at he
    obtain ⟨s', x', ha0, ha1, hsv, hxv⟩ := arg1 T hxs
    unfold appS at he
    cases hq : appSrc P u el sz x h with
    | none => simp only [hq] at he; cases he
    | some q =>
     cases hb : bytesT P el with
     | none => simp only [hq, hb] at he; cases he
     | some b =>
      cases hz : zcT P el sz with
      | none => simp only [hq, hb, hz] at he; cases he
      | some zl =>
       simp only [hq, hb, hz] at he
       obtain ⟨z, hzd⟩ := appSrc_int hq
       obtain ⟨n, new⟩ := q
       cases s with
       | slice base len c2 =>
        change appN base len c2 h nx el sz b (n, new) = _ at he
        obtain ⟨base', cap, hs', hcap⟩ : ∃ base' cap, s' = .slice base' len cap ∧ c2 ≤ cap := by
         cases base with
         | none => obtain ⟨h1, h2, h3⟩ := hsv.nilslice; subst h1 h2; exact ⟨_, _, h3, Nat.le_refl _⟩
         | some ad =>
          rcases hsv.sliceI with ⟨_, i, h1, h2⟩ | ⟨e, i, cap, _, _, h1, _, h4, _, h2⟩ | ⟨_, h0, ⟨a', cap, h2⟩, h3⟩
          ·exact ⟨_, _, h2, Nat.le_refl _⟩
          ·exact ⟨_, _, h2, h4⟩
          ·subst h0 h3; exact ⟨_, _, h2, Nat.zero_le _⟩
        subst hs'
        have hsb := (sliceT_some hst).1
        have fin : ∀ v' w1 σ', (appTail P z sz n x' el base' len cap).run P w = .ok v' w1 → n * b ≤ 281474976710656 → (¬ len + n ≤ cap → len + n < 4611686018427387904 ∧ (len + n) * b ≤ 140737488355328) →
          Rel σ' h' nx' w1 → Fwd σ h w σ' h' w1 → VR σ' v v' → nx ≤ nx' → HVal P o a σ h nx w v h' nx' := by
         intro v' w1 σ' hrun hnb hgo r1 r2 r3 r4
         refine HVal.val ?_ r1 r2 r4 r3
         rw [hex]
         refine vrun ?_
         exact append_tail ⟨⟨t, typ0 hts, hsb⟩, ⟨u, typ1 hts, hzd⟩, ha0, ha1, shape_size (sliceT_some hst).2, hb, (appSrc_good (P := P) R hzd hq hxv hnb).2.1⟩ hgo hrun
        unfold appN at he
        cases hb0 : Nat.beq n 0 with
        | true =>
         simp only [hb0] at he
         have hn0 := beq_true.1 hb0
         subst hn0
         cases hble : Nat.ble len c2 with
         | false => rw [hble] at he; cases he
         | true =>
          rw [hble] at he
          cases he
          have hlc := ble_true.1 hble
          obtain ⟨hnl, _, hap⟩ := appSrc_good (P := P) (b := b) R hzd hq hxv (by omega)
          obtain ⟨new', hrun, hvn⟩ := hap w R
          have hn' : new' = [] := List.eq_nil_of_length_eq_zero (by rw [← hvn.length, hnl]; omega)
          subst hn'
          have := tail_same (P := P) (w := w) (z := z) (sz := sz) (n := 0) (x' := x') (el := el) (base' := base') (len := len) (cap := cap) (by omega) hrun (w1 := w) (fun ad _ => rfl) (fun _ => rfl)
          exact fin _ _ σ this (by omega) (fun hne => (hne (by omega)).elim) R (Fwd.refl _ _ _) hsv (Nat.le_refl _)
        | false =>
         simp only [hb0] at he
         have hn0 := beq_false.1 hb0
         cases hbd : (Nat.ble ((len + n) * b) 100000000 && (Nat.ble (len + n) 100000000 && Nat.ble 1 sz)) with
         | false => rw [hbd] at he; cases he
         | true =>
          rw [hbd] at he
          simp only [Bool.and_eq_true] at hbd
          have hbb : (len + n) * b ≤ 100000000 := ble_true.1 hbd.1
          have hsm : len + n ≤ 100000000 := ble_true.1 hbd.2.1
          have hsz : 1 ≤ sz := ble_true.1 hbd.2.2
          have hnb : n * b ≤ 281474976710656 := by
           have : n * b ≤ (len + n) * b := Nat.mul_le_mul_right _ (by omega)
           omega
          have hgo : ¬ len + n ≤ cap → len + n < 4611686018427387904 ∧ (len + n) * b ≤ 140737488355328 := fun _ => ⟨by omega, by omega⟩
          obtain ⟨hnl, _, hap⟩ := appSrc_good (P := P) R hzd hq hxv hnb
          have grow : ∀ (old old' : List Value), ¬ len + n ≤ cap → (Builtin.firstCells sz len (.slice base' len cap)).run P { w with drawn := w.drawn + 1 } = .ok old'.toArray { w with drawn := w.drawn + 1 } → VRL σ old old' →
            (∀ (cs' rest : List Value) (c9 : Nat), VRL σ (old ++ new) cs' → rest.length = (c9 - (len + n)) * sz → len + n ≤ c9 →
             nx ≤ nx' ∧ ∃ σ', Rel σ' h' nx' { w with drawn := w.drawn + 1, heap := w.heap.push (.cells (cs' ++ rest).toArray el) } ∧
              Fwd σ h w σ' h' { w with drawn := w.drawn + 1, heap := w.heap.push (.cells (cs' ++ rest).toArray el) } ∧ VR σ' v (.slice (some ⟨w.heap.size, 0, none⟩) (len + n) c9)) →
            HVal P o a σ h nx w v h' nx' := by
           intro old old' hcg hold hov J
           obtain ⟨new', hrun, hvn⟩ := hap _ (R.drawn (w.drawn + 1))
           obtain ⟨c9, rest, g1, g2, g3⟩ := tail_grow (P := P) hcg hsm hb hbb hz hold hrun
           obtain ⟨r4, σ', r1, r2, r3⟩ := J (old' ++ new') rest c9 (hov.append hvn) g2 g1
           rw [List.append_assoc] at r1 r2
           exact fin _ _ σ' g3 hnb hgo r1 r2 r3 r4
          have place : ∀ (ad ad' : Addr) (i : BI) (hs : Hp) (cq : Nat), base' = some ad' → σ ad.block = some i → ad' = ⟨i.r, i.shift + ad.off, none⟩ → len + n ≤ cap → storeC h ad.block (ad.off + len * sz) new = .ok hs →
            ∃ w1, (appTail P z sz n x' el base' len cap).run P w = .ok (.slice base' (len + n) cap) w1 ∧ Rel σ hs nx w1 ∧ Fwd σ h w σ hs w1 := by
           intro ad ad' i hs cq hbe hi hade hcl hst
           obtain ⟨new', hrun, hvn⟩ := hap w R
           obtain ⟨w1, e1, e2, e3⟩ := store_sound P R hst hi hvn
           refine ⟨w1, tail_same hcl hrun (fun ad2 h2 => ?_) (fun h2 => by rw [hbe] at h2; cases h2), e2, e3⟩
           rw [hbe] at h2; cases h2
           rw [hade, addr_add, Nat.add_assoc]
           exact e1
          cases base with
          | none =>
           change freshA h nx el sz (len + n) new = _ at he
           obtain ⟨h1, h2, h3⟩ := hsv.nilslice
           subst h1 h2
           cases h3
           refine grow [] [] (by omega) rfl .nil fun cs' rest c9 g1 g2 g3 => ?_
           exact fresh_good R hpos g1 (by rw [List.nil_append, hnl]; simp) g2 g3 hsz he
          | some ad =>
           change appTo h nx el sz ad len c2 n new = _ at he
           unfold appTo at he
           rcases hsv.sliceI with ⟨hsp, i, h1, h2⟩ | ⟨e, i, cap', hsp, hse, h1, hesz, h4, hfin, h2⟩ | ⟨hsp, h0, ⟨a', cap', h2⟩, h3⟩
           ·cases h2
            rw [hsp] at he
            simp only at he
            unfold appExact at he
            cases hcl : Nat.ble (len + n) c2 with
            | true =>
             rw [hcl] at he
             simp only at he
             obtain ⟨s1, s2, s3⟩ := storedA_ok he
             subst s2 s3
             obtain ⟨w1, e1, e2, e3⟩ := place ad _ i h' 0 rfl h1 rfl (ble_true.1 hcl) s1
             refine fin _ _ σ e1 hnb hgo e2 e3 ?_ (Nat.le_refl _)
             obtain ⟨ab, ao, asp⟩ := ad
             simp only at hsp
             subst hsp
             exact .slx ab ao i _ _ h1
            | false =>
             rw [hcl] at he
             simp only at he
             have hcg : ¬ len + n ≤ c2 := fun hh => by rw [ble_true.2 hh] at hcl; cases hcl
             obtain ⟨old, hold, hfr⟩ := freshO_ok he
             obtain ⟨ad', cq, old', g1, g2, g3⟩ := firstS_good (P := P) (R.drawn (w.drawn + 1)) hold hsv (fun hne => by rintro rfl; simp at hne)
             cases g1
             refine grow old old' hcg g2 g3 fun cs' rest c9 k1 k2 k3 => ?_
             exact fresh_good R hpos k1 (by rw [List.length_append, firstS_length hold, hnl, Nat.add_mul]) k2 k3 hsz hfr
           ·cases h2
            rw [hsp] at he
            simp only at he
            unfold appOpen at he
            cases hes : Nat.beq e sz with
            | false => rw [hes] at he; cases he
            | true =>
             rw [hes] at he
             simp only at he
             have hee := beq_true.1 hes
             subst hee
             cases hcl : Nat.ble (len + n) c2 with
             | true =>
              rw [hcl] at he
              simp only at he
              obtain ⟨s1, s2, s3⟩ := storedA_ok he
              subst s2 s3
              have hc2 := ble_true.1 hcl
              obtain ⟨w1, e1, e2, e3⟩ := place ad _ i h' 0 rfl h1 rfl (by omega) s1
              refine fin _ _ σ e1 hnb hgo e2 e3 ?_ (Nat.le_refl _)
              obtain ⟨ab, ao, asp⟩ := ad
              simp only at hsp
              subst hsp
              exact .slo ab ao i _ _ e _ h1 hesz hse h4 hfin
             | false =>
              rw [hcl] at he
              simp only at he
              obtain ⟨t9, size, root, hg, hoff, hcv, hor⟩ := openAO_ok he
              rcases hor with ⟨hlat, hgr⟩ | ⟨hr0, hgr⟩
              ·obtain ⟨old, hold, hgA⟩ := grownO_ok hgr
               by_cases hcg : len + n ≤ cap
               ·obtain ⟨new', hrun, hvn⟩ := hap w R
                obtain ⟨k1, w1, σ', k2, k3, k4, k5⟩ := place_join (P := P) R hg hlat h1 hoff hold hvn hcv hnl hn0 hsz hcg hfin (fun x => by simp only [Bool.and_eq_true] at x; exact ⟨markIs_some x.1, beq_true.1 x.2⟩) hgA
                refine fin _ w1 σ' (tail_same hcg hrun (fun ad2 h2 => ?_) (fun h2 => by cases h2)) hnb hgo k3 k4 k5 k1
                cases h2
                rw [addr_add]
                exact k2
               ·obtain ⟨old', g2, g3⟩ := load_sound P (R.drawn (w.drawn + 1)) hold h1
                refine grow old old' hcg g2 g3 fun cs' rest c9 k1 k2 k3 => ?_
                obtain ⟨hr0, al, hroot, hal⟩ := isLatest_some hlat
                unfold grownA joinFam at hgA
                rw [hroot] at hgA
                cases hgA
                refine ⟨by omega, ?_⟩
                exact push_join R hr0 hroot (fun c hc => Tr.get_set_ne _ _ (Ne.symm hc)) (Tr.get_set_eq _ _ _) (Nat.le_refl _) (Nat.lt_succ_self _) k1 (fun _ => rfl) (by rw [List.length_append, loadC_length hold, hnl, Nat.add_mul]) k2 k3 hsz
              ·unfold killO at hgr
               obtain ⟨old, hold, hgA⟩ := grownO_ok hgr
               obtain ⟨t8, s8, r8, z1, z2, z3, z4⟩ := loadC_some hold
               rw [hg] at z1; cases z1
               obtain ⟨σ1, R1, F1, q1, q2, q3, q4⟩ := kill_good R hg hr0 z3 h1
               by_cases hcg : len + n ≤ cap
               ·obtain ⟨new', hrun, hvn⟩ := hap w R
                have hold1 : loadC ((h.set root (.fam nx nx)).set nx (.cells t9 size root)) nx ad.off (len * e) = some old := by
                 unfold loadC loadAO
                 rw [q2]
                 show loadN t9 ad.off (len * e) (Nat.ble (ad.off + len * e) size && liveB _ nx root) = some old
                 rw [q4, ble_true.2 z2]
                 exact z4
                obtain ⟨k1, w1, σ', k2, k3, k4, k5⟩ := place_join (P := P) R1 q2 q3 q1 hoff hold1 (VRL.mono F1.sub.fn hvn) hcv hnl hn0 hsz hcg hfin (fun x => by simp only [Bool.and_eq_true] at x; exact ⟨markIs_some x.1, beq_true.1 x.2⟩) hgA
                refine fin _ w1 σ' (tail_same hcg hrun (fun ad2 h2 => ?_) (fun h2 => by cases h2)) hnb hgo k3 (F1.trans k4) k5 (by omega)
                cases h2
                rw [addr_add]
                exact k2
               ·obtain ⟨old', g2, g3⟩ := load_sound P (R.drawn (w.drawn + 1)) hold h1
                refine grow old old' hcg g2 g3 fun cs' rest c9 k1 k2 k3 => ?_
                obtain ⟨_, al, hroot, hal⟩ := isLatest_some q3
                unfold grownA joinFam at hgA
                rw [hroot] at hgA
                cases hgA
                refine ⟨by omega, ?_⟩
                obtain ⟨σ', p1, p2, p3⟩ := push_join R1 hr0 hroot (fun c hc => Tr.get_set_ne _ _ (Ne.symm hc)) (Tr.get_set_eq _ _ _) (Nat.le_refl _) (Nat.lt_succ_self _) (VRL.mono F1.sub.fn k1) (el := el) (fun _ => rfl) (by rw [List.length_append, loadC_length hold, hnl, Nat.add_mul]) k2 k3 hsz
                exact ⟨σ', p1, F1.trans p2, p3⟩
           ·rw [hsp] at he
            simp only at he
            unfold appOpen at he
            have : Nat.beq 0 sz = false := beq_false.2 (by omega)
            rw [this] at he
            cases he
       | _ => cases he
  ·cases he
end
end Go.Proofs.YtpnaenbpffhjfaaGreatDoor.Ev

namespace Go.Proofs.YtpnaenbpffhjfaaGreatDoor.Ev
section
variable {σ : Sg} {h : Hp} {nx : Nat} {w : World} {P : Program} {o : Oper} {a : Act}
theorem byteX_some {v : Value} {b : UInt8} (e : byteX v = some b) : v = .int .u8 (b.toNat : Int) := by
 unfold byteX at e
 split at e
 ·rename_i n
  cases hb : Nat.blt n 256 with
  | false => rw [hb] at e; cases e
  | true =>
   rw [hb] at e
   cases e
   have hn := blt_true.1 hb
   have : (UInt8.ofNat n).toNat = n := by simp [UInt8.toNat_ofNat']; omega
   rw [this]; rfl
 ·cases e
theorem byteXL_some : ∀ {l : List Value} {r : List UInt8}, byteXL l = some r → l = Lib.byteCells r
 | [], r, e => by cases e; rfl
 | v :: l, r, e => by
  unfold byteXL at e
  cases hb : byteX v with
  | none => rw [hb] at e; cases e
  | some b =>
   rw [hb] at e
   simp only at e
   cases hl : byteXL l with
   | none => rw [hl] at e; cases e
   | some r2 =>
    rw [hl] at e
    cases e
    rw [byteX_some hb, byteXL_some hl]; rfl
theorem byteCells_flat (r : List UInt8) : flatL (Lib.byteCells r) = true := by
 have := flatL_bytes r
 rw [bytesL_eq] at this
 exact this
theorem Rel.turned (R : Rel σ h nx w) {w1 : World} {g : Nat} (hs : w.heap.size ≤ w1.heap.size) (ho : ∀ r, r ≠ g → w1.heap[r]? = w.heap[r]?) (hd : ∀ c ob j, h.get c = some ob → live h c ob → σ c = some j → j.r ≠ g) (hz : It σ h g) : Rel σ h nx w1 := by
 refine ⟨⟨fun b ob hb => ?_, R.new, R.fams, R.sep, R.lat, R.mx, R.rsv, R.gl⟩, fun r p hr => ⟨by rw [ho r (fun e => (R.fz r p hr).2 (e ▸ hz))]; exact (R.fz r p hr).1, (R.fz r p hr).2⟩⟩
 rcases R.obj b ob hb with hf | ⟨i, hi, hr, hor⟩
 ·exact .inl hf
 ·exact .inr ⟨i, hi, Nat.lt_of_lt_of_le hr hs, fun hl => (hor hl).world (ho _ (hd b ob i hb hl hi))⟩
theorem kill_turn (R : Rel σ h nx w) {b root size L al : Nat} {t : Tr Value} (hg : h.get b = some (.cells t size root)) (hr0 : root ≠ 0) (hlb : liveB h b root = true) (hroot : h.get root = some (.fam L al)) {i : BI} (hi : σ b = some i)
  {w1 : World} (hos : w1.os = w.os) (htp : w1.tape = w.tape) (hout : w1.output = w.output) (hs : w.heap.size = w1.heap.size) (ho : ∀ r, r ≠ i.r → w1.heap[r]? = w.heap[r]?) :
  Rel σ (h.set root (.fam L nx)) nx w1 ∧ Fwd σ h w σ (h.set root (.fam L nx)) w1 := by
 obtain ⟨Rk, hdead⟩ := R.kill hr0 hroot
 have hback : ∀ c ob, (h.set root (.fam L nx)).get c = some ob → ¬ isFam ob → h.get c = some ob := by
  intro c ob hc hnf
  rw [Tr.get_set] at hc
  by_cases e : root = c
  ·rw [if_pos e] at hc; cases hc; exact (hnf trivial).elim
  ·rw [if_neg e] at hc; exact hc
 have hsepk : ∀ c ob j, (h.set root (.fam L nx)).get c = some ob → live (h.set root (.fam L nx)) c ob → σ c = some j → j.r ≠ i.r := by
  intro c ob j hc hl hj hr
  have hc' := hback c ob hc (Rk.notFam hc hj)
  by_cases e : c = b
  ·subst e
   rw [hg] at hc'; cases hc'
   exact hdead c _ hg rfl hl
  ·have hlh : live h c ob := by
    have hne : famOf ob ≠ root := fun e => hdead c ob hc' e hl
    exact (live_congr (by rw [Tr.get_set_ne _ _ (Ne.symm hne)])).1 hl
   have := (R.sep c b ob _ j i hc' hg hlh hlb hj hi e hr).1
   exact hdead c ob hc' this hl
 have hbr : b ≠ root := by intro x; rw [x, hroot] at hg; cases hg
 refine ⟨Rk.turned (Nat.le_of_eq hs) ho hsepk ⟨b, _, i, by rw [Tr.get_set_ne _ _ (Ne.symm hbr)]; exact hg, hi, rfl, (fun x => x : ¬ isTab (.cells t size root))⟩, Sg.le_refl _, hos, htp, hout, Nat.le_of_eq hs, fun r hr => .inl ?_, fun r hr => .inl ?_, fun r hr hnt => ho r fun e => hnt ?_, fun _ _ h => .inl h⟩
 ·obtain ⟨c, ob, j, hc, hj, hr⟩ := hr
  exact ⟨c, ob, j, hback c ob hc (Rk.notFam hc hj), hj, hr⟩
 ·obtain ⟨c, ob, j, hc, hj, hr, hnt⟩ := hr
  exact ⟨c, ob, j, hback c ob hc (Rk.notFam hc hj), hj, hr, hnt⟩
 ·exact ⟨b, _, i, hg, hi, e.symm, fun x => x⟩
theorem freeze_other (w : World) (ad : Addr) (n : Nat) {r : Nat} (hr : r ≠ ad.block) : (w.freeze ad n).heap[r]? = w.heap[r]? := by
 unfold World.freeze
 split
 ·rfl
 ·simp only [Array.getElem?_modify]
  rw [if_neg (Ne.symm hr)]
theorem freeze_rest (w : World) (ad : Addr) (n : Nat) : (w.freeze ad n).os = w.os ∧ (w.freeze ad n).tape = w.tape ∧ (w.freeze ad n).output = w.output ∧ w.heap.size = (w.freeze ad n).heap.size := by
 unfold World.freeze
 split
 ·exact ⟨rfl, rfl, rfl, rfl⟩
 ·exact ⟨rfl, rfl, rfl, by simp⟩
theorem ptrElem_some {t e : TypeId} (h : ptrElem P t = some e) : P.underlying t = some (.pointer e) ∧ P.cellsOf e = 1 := by
 unfold ptrElem at h
 split at h
 ·rename_i e' hu
  unfold oneT at h
  cases hz : sizeT P e' with
  | none => rw [hz] at h; cases h
  | some n =>
   rw [hz] at h
   simp only at h
   cases hb : Nat.beq n 1 with
   | false => rw [hb] at h; cases h
   | true =>
    rw [hb] at h
    cases h
    have := beq_true.1 hb
    subst this
    exact ⟨hu, cellsOf_size hz⟩
 ·cases h
theorem hspec_string {c : Call} (ho : o.op = .call c) (hc : c.callee = .builtin .unsafeString) {tm : Tr Value} {nt : Nat} (R : Rel σ h nx w) (T : TR σ nt tm a.tmps) :
  HDone P o a σ h nx w (evString P c.argTypes.toList ((cOps c.args.toList).f tm) h nx) := by
 have hex : execOp a.eval o = (do pure (Next.value (← Builtin.unsafeString_ c.argTypes o.type (c.args.map a.eval)))) := by rw [exec_builtin ho hc]; rfl
 have hl : VRL σ (ops c.args.toList tm) (c.args.toList.map a.eval) := VRL.ops T c.args.toList
 have hm : c.args.map a.eval = ⟨c.args.toList.map a.eval⟩ := by apply Array.ext'; simp
 have ht : c.argTypes = ⟨c.argTypes.toList⟩ := rfl
 show HDone P o a σ h nx w (evString P c.argTypes.toList (ops c.args.toList tm) h nx)
 revert hl hm
 generalize ops c.args.toList tm = l
 generalize c.args.toList.map a.eval = l'
 intro hl hm
 cases he : evString P c.argTypes.toList l h nx with
 | no _ _ => trivial
 | ok v h' nx' =>
  unfold evString at he
  split at he
  ·rename_i t u p n hts
   cases hl with
   | cons _ p' _ l2 hp h2 =>
    cases h2 with
    | cons _ n' _ l3 hn h3 =>
     cases h3
     obtain rfl := hn.int
     have hrun : ∀ {s : Value} {w1 : World}, (Builtin.unsafeString_ #[t, u] o.type #[p', .int .i64 (n : Int)]).run P w = .ok s w1 → (execOp a.eval o).run P w = .ok (.value s) w1 := by
      intro s w1 hr
      rw [hex, hm, ht, hts]
      exact vrun hr
     have hpp : ∃ q, p' = .pointer q := by
      cases p with
      | none =>
       cases hp with
       | base _ _ => exact ⟨_, rfl⟩
      | some ad => obtain ⟨_, i, _, e⟩ := hp.ptrI; exact ⟨_, e⟩
     unfold strPN at he
     cases h0 : Nat.beq n 0 with
     | true =>
      rw [h0] at he
      cases he
      have := beq_true.1 h0
      subst this
      obtain ⟨q, rfl⟩ := hpp
      exact HVal.val (v' := .string .empty) (hrun (Lib.run_unsafeString_none w t u o.type q)) R (Fwd.refl _ _ _) (Nat.le_refl _) (VR.s _)
     | false =>
      rw [h0] at he
      have hn0 := beq_false.1 h0
      cases p with
      | none => cases he
      | some ad =>
       simp only at he
       cases hle : Nat.ble n 1000000 with
       | false => rw [hle] at he; cases he
       | true =>
        rw [hle] at he
        simp only at he
        have hn1 := ble_true.1 hle
        unfold strAt at he
        cases hpe : ptrElem P t with
        | none => rw [hpe] at he; cases he
        | some e =>
         rw [hpe] at he
         simp only at he
         obtain ⟨hu1, hu2⟩ := ptrElem_some hpe
         unfold strAO at he
         split at he
         ·rename_i t1 size root hg
          cases hcnd : ((Nat.beq ad.off 0 && nb (Nat.beq root 0)) && (Nat.ble n size && markIs (t1.get size) e)) with
          | false => rw [hcnd] at he; cases he
          | true =>
           rw [hcnd] at he
           simp only at he
           simp only [Bool.and_eq_true, nb_eq, Bool.not_eq_true'] at hcnd
           obtain ⟨⟨c1, c2⟩, c3, c4⟩ := hcnd
           have hoff := beq_true.1 c1
           have hr0 := beq_false.1 c2
           cases hby : bytesLO (loadC h ad.block ad.off n) with
           | none => rw [hby] at he; cases he
           | some s =>
            rw [hby] at he
            simp only at he
            unfold bytesLO at hby
            cases hld : loadC h ad.block ad.off n with
            | none => rw [hld] at hby; cases hby
            | some lv =>
             rw [hld] at hby
             have hlv := byteXL_some hby
             unfold strKill at he
             cases hfo : famO (h.get root) with
             | none => rw [hfo] at he; cases he
             | some f =>
              rw [hfo] at he
              cases he
              have hroot := famO_of hfo
              obtain ⟨t2, s2, r2, z1, z2, hlb, z4⟩ := loadC_some hld
              rw [hg] at z1; cases z1
              obtain ⟨_, i, hi, hX⟩ := hp.ptrI
              obtain ⟨cs, el, fr, hcs, h1, h2, _, h5⟩ := R.cells hg hlb hi
              obtain ⟨hel, hsh0⟩ := R.tyE hg hlb hi hcs e (markIs_some c4)
              subst hel
              have hlen : s.length = n := by
               have := (Tr.getMany_some _ _ _ _ z4).1
               rw [hlv, Lib.byteCells_length] at this; exact this
              have hcell : ∀ (j : Nat) (x : UInt8), s[j]? = some x → w.cell? ((⟨i.r, 0, none⟩ : Addr).add j) = some (.int .u8 x.toNat) := by
               intro j x hx
               have hj : j < n := by rw [← hlen]; exact (List.getElem?_eq_some_iff.1 hx).1
               have z5 := (Tr.getMany_some _ _ _ _ z4).2 j hj
               have hvj : lv[j]? = some (.int .u8 (x.toNat : Int)) := by rw [hlv]; unfold Lib.byteCells; rw [List.getElem?_map, hx]; rfl
               obtain ⟨v', y1, y2⟩ := h5 (ad.off + j) _ (by omega) (by rw [z5]; exact hvj)
               have e2 : (⟨i.r, 0, none⟩ : Addr).add j = ⟨i.r, j, none⟩ := by
                unfold Addr.add
                by_cases hj0 : j = 0
                ·rw [if_pos hj0, hj0]
                ·rw [if_neg hj0]
                 simp only [Nat.zero_add]
               rw [e2, cell_at hcs]
               have e3 : i.shift + (ad.off + j) = j := by omega
               rw [e3] at y1
               rw [y1, y2.int]
              have hr1 := Lib.run_unsafeString_row (P := P) w t u o.type el hu1 hu2 i.r cs.size (by simp [World.shape?, hcs]) s (by intro e; rw [e] at hlen; simp at hlen; omega) (by omega) (by omega) hcell
              obtain ⟨f1, f2, f3, f4⟩ := freeze_rest w ⟨i.r, 0, none⟩ s.length
              obtain ⟨K1, K2⟩ := kill_turn R hg hr0 hlb hroot hi f1 f2 f3 f4 (fun r hr => freeze_other w ⟨i.r, 0, none⟩ s.length hr)
              refine HVal.val (v' := .string ⟨s.toArray⟩) (hrun ?_) K1 K2 (Nat.le_refl _) ?_
              ·rw [hX, hsh0, hoff, ← hlen]
               exact hr1
              ·exact VR.s _
         ·cases he
  ·cases he
end
end Go.Proofs.YtpnaenbpffhjfaaGreatDoor.Ev

namespace Go.Proofs.YtpnaenbpffhjfaaGreatDoor.Ev
def FwR (ro : Option Nat) : Fence := { Fence.wide with round := ro }
def Post (σ : Sg) (h : Hp) (nx : Nat) (w : World) (v : Value) (h' : Hp) (nx' : Nat) : Ending → World → Prop :=
 fun e w1 => ∃ v' σ', e = .returned v' ∧ Rel σ' h' nx' w1 ∧ Fwd σ h w σ' h' w1 ∧ VR σ' v v' ∧ nx ≤ nx'
def CallRes (P : Program) (g : FuncId) (args' : List Value) (σ : Sg) (h : Hp) (nx : Nat) (w : World) : H → Prop
 | .no _ _ => True
 | .ok v h' nx' => (∃ v' w1 σ', (callFunc g ⟨args'⟩).run P w = .ok (.value v') w1 ∧ Rel σ' h' nx' w1 ∧ Fwd σ h w σ' h' w1 ∧ VR σ' v v' ∧ nx ≤ nx') ∨
   ((callFunc g ⟨args'⟩).run P w = .ok (.enter g ⟨args'⟩) w ∧ CallsIn Fence.wide 0 P g ⟨args'⟩ w (Post σ h nx w v h' nx'))
def RoundRes (P : Program) (l : Nat) (args' : List Value) (σ : Sg) (h : Hp) (nx : Nat) (w : World) : H → Prop
 | .no _ _ => True
 | .ok v h' nx' => ∃ f tmps asg body, (Instr.yield l ⟨args'⟩).run P w = .ok (.round l f tmps asg body) w ∧ RoundIn Fence.wide 0 P l f tmps asg body w (Post σ h nx w v h' nx')
def CallDRes (P : Program) (g : FuncId) (args' : List Value) (σ : Sg) (h : Hp) (nx : Nat) (w : World) : H → Prop
 | .no _ _ => True
 | .ok v h' nx' => (callFunc g ⟨args'⟩).run P w = .ok (.enter g ⟨args'⟩) w ∧ CallsDIn Fence.wide 0 P g ⟨args'⟩ .returning w fun e u' w' => u' = .returning ∧ Post σ h nx w v h' nx' e w'
structure RecGood (P : Program) (r : Rec) : Prop where
 callD : ∀ g args h nx σ w args', Rel σ h nx w → 1 ≤ nx → VRL σ args args' → CallDRes P g args' σ h nx w (r.callD g args h nx)
 call : ∀ g args h nx σ w args', Rel σ h nx w → 1 ≤ nx → VRL σ args args' → CallRes P g args' σ h nx w (r.call g args h nx)
 round : ∀ l args h nx σ w args' i, Rel σ h nx w → 1 ≤ nx → VRL σ args args' → σ l = some i → RoundRes P i.r args' σ h nx w (r.round l args h nx)
def HGood (P : Program) (o : Oper) (a : Act) (ro : Option Nat) (σ : Sg) (h : Hp) (nx : Nat) (w : World) : H → Prop
 | .no _ _ => True
 | .ok v h' nx' => ∀ (next : Act → World → Prop) (Q : Exit → Act → World → Prop), (∀ σ' v' w1, Rel σ' h' nx' w1 → Fwd σ h w σ' h' w1 → VR σ' v v' → nx ≤ nx' → next (a.put o.dst v') w1) → o.wpIn (FwR ro) 0 P a w next Q
section
variable {σ : Sg} {h : Hp} {nx : Nat} {w : World} {P : Program} {o : Oper} {a : Act} {ro : Option Nat}
theorem HDone.good (hnd : ∀ c, o.op ≠ .defer c) {res : H} (hd : HDone P o a σ h nx w res) : HGood P o a ro σ h nx w res := by
 cases res with
 | no _ _ => trivial
 | ok v h' nx' =>
  obtain ⟨hn, x, v', w1, σ', hr, hx, R, F, hv⟩ := hd
  refine fun next Q K => ⟨fun _ _ => trivial, ?_⟩
  rw [Oper.semAt_eq _ _ _ hnd, hr]
  rcases hx with hx | ⟨hx, hu⟩
  ·subst hx; exact K σ' v' w1 R F hv hn
  ·subst hx hu; exact K σ' undef w1 R F hv hn
theorem callV_good {r : Rec} (G : RecGood P r) {c : Call} {g : Operand} (ho : o.op = .call c) (hc : c.callee = .value g) (hpos : 1 ≤ nx) (R : Rel σ h nx w) {f : Value} {xs : List Value} (hf : VR σ f (a.eval g)) (hxs : VRL σ xs (c.args.toList.map a.eval)) :
  HGood P o a ro σ h nx w (callV f r xs h nx) := by
 have hnd : ∀ c, o.op ≠ .defer c := fun c hh => by rw [ho] at hh; cases hh
 have hmap : c.args.map a.eval = ⟨c.args.toList.map a.eval⟩ := map_args a c
 have hex : ∀ fn first captured, a.eval g = .func fn first captured → execOp a.eval o = invoke (.fn fn captured) (first ++ c.args.map a.eval) := by
  intro fn first captured hg
  unfold execOp
  simp only [ho]
  show Sem.bind (resolve a.eval c o.type) _ = _
  unfold resolve
  simp only [hc, hg]
  rfl
 cases f with
 | func fn fa fb =>
  cases fn with
  | func gid =>
   obtain ⟨a', b', hfe, ha, hb⟩ := hf.funcI
   have hG := G.call gid (fa.toList ++ (xs ++ fb.toList)) h nx σ w (a' ++ (c.args.toList.map a.eval ++ b')) R hpos (ha.append (hxs.append hb))
   show HGood P o a ro σ h nx w (r.call gid (fa.toList ++ (xs ++ fb.toList)) h nx)
   cases hres : r.call gid (fa.toList ++ (xs ++ fb.toList)) h nx with
   | no _ _ => trivial
   | ok v h' nx' =>
    rw [hres] at hG
    refine fun next Q K => ⟨fun _ _ => trivial, ?_⟩
    have hexe : execOp a.eval o = callFunc gid ⟨a' ++ (c.args.toList.map a.eval ++ b')⟩ := by
     rw [hex _ _ _ hfe]
     show callFunc gid _ = _
     congr 1
     rw [hmap]
     simp
    rw [Oper.semAt_eq _ _ _ hnd, hexe]
    rcases hG with ⟨v', w1, σ', hr, R', F', hv, hn⟩ | ⟨hr, hcall⟩
    ·rw [hr]; exact K σ' v' w1 R' F' hv hn
    ·rw [hr]
     refine ⟨fun hh => (by cases hh), ?_⟩
     refine CallsIn.mono (F := FwR ro) (n := 0) (R := Post σ h nx w v h' nx') hcall fun e w1 he => ?_
     obtain ⟨v', σ', he, R', F', hv, hn⟩ := he
     subst he
     exact K σ' v' w1 R' F' hv hn
  | yield l =>
   obtain ⟨i, hi, h1, h2, hfe⟩ := hf.yieldI
   have hG := G.round l (fa.toList ++ xs) h nx σ w (c.args.toList.map a.eval) i R hpos (by rw [h1]; exact hxs) hi
   show HGood P o a ro σ h nx w (r.round l (fa.toList ++ xs) h nx)
   cases hres : r.round l (fa.toList ++ xs) h nx with
   | no _ _ => trivial
   | ok v h' nx' =>
    rw [hres] at hG
    obtain ⟨f, tmps, asg, body, hr, hround⟩ := hG
    refine fun next Q K => ⟨fun _ _ => trivial, ?_⟩
    have hexe : execOp a.eval o = Instr.yield i.r ⟨c.args.toList.map a.eval⟩ := by
     rw [hex _ _ _ hfe]
     show Instr.yield i.r _ = _
     congr 1
     rw [hmap]
     simp
    rw [Oper.semAt_eq _ _ _ hnd, hexe, hr]
    refine ⟨fun hh => (by cases hh), ?_⟩
    refine RoundIn.mono (F := FwR ro) (n := 0) (R := Post σ h nx w v h' nx') hround fun e w1 he => ?_
    obtain ⟨v', σ', he, R', F', hv, hn⟩ := he
    subst he
    exact K σ' v' w1 R' F' hv hn
  | _ => trivial
 | _ => trivial
theorem findM_eq (m : String) : ∀ l : List Method, findM m l = l.find? (·.name == m)
 | [] => rfl
 | x :: l => by
  show (match x.name == m with | true => some x | false => findM m l) = _
  rw [List.find?_cons, findM_eq m l]
  cases x.name == m <;> rfl
theorem method_run {t : TypeId} {m : String} {f : FuncId} (e : methodF P t m = some f) (v : Value) : (method (P.types.size + Made.depth) t v m).run P w = .ok (f, v) w := by
 unfold methodF at e
 cases hi : P.info? t with
 | none => rw [hi] at e; cases e
 | some i =>
  cases hb : ptrT P t with
  | none => rw [hi, hb] at e; cases e
  | some b =>
   rw [hi, hb] at e
   simp only at e
   cases hf : findM m i.methods.toList with
   | none => rw [hf] at e; cases e
   | some x =>
    rw [hf] at e
    simp only at e
    unfold methodOne at e
    cases hp : x.path.toList with
    | cons _ _ => rw [hp] at e; cases e
    | nil =>
     rw [hp] at e
     simp only at e
     cases hfu : x.func with
     | none => rw [hfu] at e; cases e
     | some q =>
      rw [hfu] at e
      obtain ⟨f0, pr⟩ := q
      simp only at e
      cases hpr : eqBool pr b with
      | false => rw [hpr] at e; cases e
      | true =>
       rw [hpr] at e
       cases e
       have hpb : pr = b := by cases pr <;> cases b <;> first | rfl | cases hpr
       subst hpb
       have hinfo : (typeInfo t).run P w = .ok i w := run_info hi
       have hfind : i.methods.find? (·.name == m) = some x := by
        rw [← Array.find?_toList, ← findM_eq]; exact hf
       have hund : ∃ d, P.underlying t = some d ∧ ((∃ e, d = .pointer e) ↔ pr = true) := by
        unfold ptrT at hb
        cases hu : P.underlying t with
        | none => rw [hu] at hb; cases hb
        | some d =>
         rw [hu] at hb
         refine ⟨d, rfl, ?_⟩
         cases d <;> simp at hb <;> subst hb <;> simp
       obtain ⟨d, hd, hdp⟩ := hund
       have hdep : P.types.size + Made.depth = (P.types.size + 99) + 1 := rfl
       rw [hdep]
       unfold method
       rw [run_b hinfo]
       simp only [hfind]
       have hfol : (follow x.path.toList t (.val v)).run P w = .ok (t, Place.val v) w := by rw [hp]; rfl
       rw [run_b hfol]
       simp only [hfu]
       have hrecv : ∀ wr, (receiverAt t (.val v) pr wr).run P w = .ok v w := by
        intro wr
        unfold receiverAt
        rw [run_b (run_und hd)]
        cases pr with
        | true =>
         obtain ⟨e, he⟩ := hdp.2 rfl
         subst he
         rfl
        | false =>
         cases d with
         | pointer e => have := hdp.1 ⟨e, rfl⟩; cases this
         | _ => rfl
       rw [run_b (hrecv _)]
       rfl
theorem invokeV_good {r : Rec} (G : RecGood P r) {c : Call} {x : Operand} {m : String} (ho : o.op = .call c) (hc : c.callee = .invoke x m) (hpos : 1 ≤ nx) (R : Rel σ h nx w) {f : Value} {xs : List Value} (hf : VR σ f (a.eval x)) (hxs : VRL σ xs (c.args.toList.map a.eval)) :
  HGood P o a ro σ h nx w (invokeV P m f r xs h nx) := by
 have hnd : ∀ c, o.op ≠ .defer c := fun c hh => by rw [ho] at hh; cases hh
 cases f with
 | iface t v =>
  obtain ⟨u, hu, hvu⟩ := hf.ifaceI
  show HGood P o a ro σ h nx w (invokeF (methodF P t m) v r xs h nx)
  cases hm : methodF P t m with
  | none => trivial
  | some g =>
   have hG := G.call g (v :: xs) h nx σ w (u :: c.args.toList.map a.eval) R hpos (.cons _ _ _ _ hvu hxs)
   show HGood P o a ro σ h nx w (r.call g (v :: xs) h nx)
   have hexe : (execOp a.eval o).run P w = (callFunc g ⟨u :: c.args.toList.map a.eval⟩).run P w := by
    unfold execOp
    simp only [ho]
    have hres : (resolve a.eval c o.type).run P w = .ok { target := .fn (.method m) #[], args := #[a.eval x] ++ c.args.map a.eval } w := by
     unfold resolve
     simp only [hc]
     rfl
    rw [run_b hres]
    have h0 : (#[a.eval x] ++ c.args.map a.eval)[0]? = some (a.eval x) := by rw [Array.getElem?_append_left (by simp)]; rfl
    unfold invoke
    simp only [h0]
    have hargs : (#[a.eval x] ++ c.args.map a.eval).extract 1 (#[a.eval x] ++ c.args.map a.eval).size = ⟨c.args.toList.map a.eval⟩ := by
     apply Array.ext'
     rw [Array.toList_extract, List.extract_eq_take_drop, Array.toList_append, Array.size_append, Array.size_map]
     show List.take (1 + c.args.size - 1) (List.drop 1 (a.eval x :: (c.args.map a.eval).toList)) = _
     rw [List.drop_succ_cons, List.drop_zero, Array.toList_map, List.take_of_length_le (by simp)]
    rw [hargs, hu]
    unfold callMethod
    simp only
    rw [run_b run_program, run_b (method_run hm u)]
    have happ : (#[u] ++ (⟨c.args.toList.map a.eval⟩ : Array Value)) = ⟨u :: c.args.toList.map a.eval⟩ := by apply Array.ext'; simp
    show (callFunc g (#[u] ++ (⟨c.args.toList.map a.eval⟩ : Array Value))).run P w = _
    rw [happ]
   cases hres : r.call g (v :: xs) h nx with
   | no _ _ => trivial
   | ok v' h' nx' =>
    rw [hres] at hG
    refine fun next Q K => ⟨fun _ _ => trivial, ?_⟩
    rw [Oper.semAt_eq _ _ _ hnd, hexe]
    rcases hG with ⟨v1, w1, σ', hr, R', F', hv, hn⟩ | ⟨hr, hcall⟩
    ·rw [hr]; exact K σ' v1 w1 R' F' hv hn
    ·rw [hr]
     refine ⟨fun hh => (by cases hh), ?_⟩
     refine CallsIn.mono (F := FwR ro) (n := 0) (R := Post σ h nx w v' h' nx') hcall fun e w1 he => ?_
     obtain ⟨v1, σ', he, R', F', hv, hn⟩ := he
     subst he
     exact K σ' v1 w1 R' F' hv hn
 | _ => trivial
theorem cHeavy_good {r : Rec} (G : RecGood P r) (hpos : 1 ≤ nx) {tm : Tr Value} {nt : Nat} (R : Rel σ h nx w) (T : TR σ nt tm a.tmps) :
  HGood P o a ro σ h nx w ((cHeavy P o.op).f r tm h nx) := by
 cases ho : o.op with
 | store t x y => exact (hspec_store ho r R T).good (by intro c hh; rw [ho] at hh; cases hh)
 | mapUpdate t m k x => exact (hspec_mapSet (.inl ho) R T).good (by intro c hh; rw [ho] at hh; cases hh)
 | insert t m k x => exact (hspec_mapSet (.inr ho) R T).good (by intro c hh; rw [ho] at hh; cases hh)
 | next x s => exact (hspec_next ho R T).good (by intro c hh; rw [ho] at hh; cases hh)
 | call c =>
  show HGood P o a ro σ h nx w ((cHeavyC c.callee P c.argTypes.toList (cOps c.args.toList)).f r tm h nx)
  cases hc : c.callee with
  | value g =>
   have hl : VRL σ ((cOps c.args.toList).f tm) (c.args.toList.map a.eval) := VRL.ops T c.args.toList
   cases g with
   | func gid =>
    have := callV_good (ro := ro) G ho hc hpos R (f := .func (.func gid) #[] #[]) (xs := (cOps c.args.toList).f tm) (VR.opv T (.func gid)) hl
    show HGood P o a ro σ h nx w (r.call gid ((cOps c.args.toList).f tm) h nx)
    have e : callV (.func (.func gid) #[] #[]) r ((cOps c.args.toList).f tm) h nx = r.call gid ((cOps c.args.toList).f tm) h nx := by
     show r.call gid ([] ++ (_ ++ [])) h nx = _
     rw [List.nil_append, List.append_nil]
    rw [e] at this
    exact this
   | tmp t => exact callV_good (ro := ro) G ho hc hpos R (VR.opv T (.tmp t)) hl
   | const v => exact callV_good (ro := ro) G ho hc hpos R (VR.opv T (.const v)) hl
   | global g => exact callV_good (ro := ro) G ho hc hpos R (VR.opv T (.global g)) hl
  | builtin b =>
   have hnd : ∀ c, o.op ≠ .defer c := fun c hh => by rw [ho] at hh; cases hh
   cases b with
   | append => exact (hspec_append ho hc hpos R T).good hnd
   | copy => exact (hspec_copy ho hc R T).good hnd
   | delete => exact (hspec_delete ho hc R T).good hnd
   | clear => exact (hspec_clear ho hc R T).good hnd
   | unsafeString => exact (hspec_string ho hc R T).good hnd
   | _ => trivial
  | invoke x m =>
   have hl : VRL σ ((cOps c.args.toList).f tm) (c.args.toList.map a.eval) := VRL.ops T c.args.toList
   exact invokeV_good (ro := ro) G ho hc hpos R (VR.opv T x) hl
 | _ => trivial
end
end Go.Proofs.YtpnaenbpffhjfaaGreatDoor.Ev

namespace Go.Proofs.YtpnaenbpffhjfaaGreatDoor.Ev
def exitOf : Ex → Exit
 | .normal => .normal
 | .exit id => .exit id
 | .goto l => .goto l
 | .ret => .ret
def DE (σ : Sg) (d : Deferred) : DfE → Prop
 | .mark b => ∃ i, σ b = some i ∧ d = { target := .collected i.r, args := #[] }
 | .call g args => ∃ cap as', d = { target := .fn (.func g) cap, args := as' } ∧ VRL σ args (as'.toList ++ cap.toList)
theorem DE.mono {σ τ : Sg} (hs : Sg.sub σ τ) {d : Deferred} : ∀ {e : DfE}, DE σ d e → DE τ d e
 | .mark b, ⟨i, h1, h2⟩ => ⟨i, hs _ _ h1, h2⟩
 | .call g args, ⟨cap, as', h1, h2⟩ => ⟨cap, as', h1, h2.mono hs⟩
def DR (σ : Sg) : List DfE → List Deferred → Prop
 | [], [] => True
 | b :: bs, d :: ds => DE σ d b ∧ DR σ bs ds
 | _, _ => False
theorem DR.mono {σ τ : Sg} (hs : Sg.sub σ τ) : ∀ {l : List DfE} {ds : List Deferred}, DR σ l ds → DR τ l ds
 | [], [], _ => trivial
 | b :: bs, d :: ds, h => ⟨h.1.mono hs, DR.mono hs h.2⟩
 | [], _ :: _, h => h.elim
 | _ :: _, [], h => h.elim
def RO (σ : Sg) : Option Nat → Option Nat → Prop
 | none, none => True
 | some l, some l' => ∃ i, σ l = some i ∧ i.r = l'
 | _, _ => False
theorem RO.mono {σ τ : Sg} (hs : Sg.sub σ τ) : ∀ {a b : Option Nat}, RO σ a b → RO τ a b
 | none, none, _ => trivial
 | some l, some l', h => let ⟨i, h1, h2⟩ := h; ⟨i, hs _ _ h1, h2⟩
 | none, some _, h => h.elim
 | some _, none, h => h.elim
structure St (σ : Sg) (h : Hp) (nx : Nat) (w : World) (S : Sx) (nt : Nat) (tm : Tr Value) (df : List DfE) (a : Act) (ro : Option Nat) : Prop where
 R : Rel σ h nx w
 pos : 1 ≤ nx
 snt : S.nt = nt
 T : TR σ nt tm a.tmps
 D : DR σ df a.defers
 ro : RO σ S.ro ro
theorem St.next {σ : Sg} {h : Hp} {nx : Nat} {w : World} {S : Sx} {nt : Nat} {tm : Tr Value} {df : List DfE} {a : Act} {ro : Option Nat} (s : St σ h nx w S nt tm df a ro)
  {σ' : Sg} {h' : Hp} {nx' : Nat} {w' : World} (R : Rel σ' h' nx' w') (F : Fwd σ h w σ' h' w') (hn : nx ≤ nx') {tm' : Tr Value} {a' : Act} (T : TR σ' nt tm' a'.tmps) (hd : a'.defers = a.defers) :
  St σ' h' nx' w' S nt tm' df a' ro := ⟨R, Nat.le_trans s.pos hn, s.snt, T, by rw [hd]; exact s.D.mono F.sub, s.ro.mono F.sub⟩
def Fut (σ : Sg) (h : Hp) (nx : Nat) (w : World) (S : Sx) (nt : Nat) (ro : Option Nat) (W : (Exit → Act → World → Prop) → Prop) : C → Prop
 | .no _ _ => True
 | .ok e tm' df' h' nx' => ∀ Q : Exit → Act → World → Prop, (∀ σ' a' w', St σ' h' nx' w' S nt tm' df' a' ro → Fwd σ h w σ' h' w' → nx ≤ nx' → Q (exitOf e) a' w') → W Q
def KSeq (P : Program) (ops : Array Oper) (idx : List Nat) (nt : Nat) (k : KC) : Prop :=
 ∀ r, RecGood P r → ∀ S ro tm df h nx σ w a, St σ h nx w S nt tm df a ro → Fut σ h nx w S nt ro (fun Q => wpOpsIn (FwR ro) 0 P ops Q idx a w) (k.f r S tm df h nx)

section
variable {P : Program} {nt : Nat}
theorem put_defers (a : Act) (dst : Option Tmp) (v : Value) : (a.put dst v).defers = a.defers := by cases dst <;> rfl
theorem cPut_good {dst : Option Tmp} {p : KP} (hp : cPut nt dst = some p) {σ : Sg} {tm : Tr Value} {a : Act} (T : TR σ nt tm a.tmps) {v v' : Value} (hv : VR σ v v') : TR σ nt (p.f tm v) (a.put dst v').tmps := by
 cases dst with
 | none => cases hp; exact T
 | some d =>
  unfold cPut at hp
  cases hb : Nat.blt d nt with
  | false => simp only [hb] at hp; cases hp
  | true => simp only [hb] at hp; cases hp; exact T.put (blt_true.1 hb) hv
theorem gdst_eq (ops : Array Oper) (j : Nat) : gdst ops.toList j = (ops[j]?).bind (·.dst) := by
 unfold gdst
 rw [nth_eq, Array.getElem?_toList]
 cases ops[j]? <;> rfl
theorem guard_good {ops : Array Oper} {o : Oper} {j : Nat} {want : Bool} (hg : o.guard = some (j, want)) {σ : Sg} {tm : Tr Value} {a : Act} (T : TR σ nt tm a.tmps) {b : Bool}
  (he : (cGuardD want (gdst ops.toList j)).f tm = some b) : Region.wanted o (yielded ops a.tmps) = b := by
 unfold Region.wanted
 rw [hg]
 simp only
 rw [gdst_eq] at he
 unfold yielded
 cases hd : (ops[j]?).bind (·.dst) with
 | none => rw [hd] at he; cases he; rfl
 | some d =>
  rw [hd] at he
  change isBO want (tm.get d) = some b at he
  cases hv : tm.get d with
  | none => rw [hv] at he; cases he
  | some v =>
   rw [hv] at he
   have hr := T.2 d v hv
   change isB want v = some b at he
   simp only [Option.bind_some]
   cases ht : a.tmps[d]? with
   | some v' =>
    have hgd : a.tmps.getD d undef = v' := by rw [Array.getD_eq_getD_getElem?, ht]; rfl
    rw [hgd] at hr
    cases hr <;> first | (cases he; done) | (cases he; rfl) | skip
    rename_i hb
    cases v <;> first | (cases he; done) | (cases he; rfl) | skip
    ·rename_i b0
     cases he
     show (some b0 == some want) = eqBool b0 want
     cases b0 <;> cases want <;> rfl
   | none =>
    have hgd : a.tmps.getD d undef = undef := by rw [Array.getD_eq_getD_getElem?, ht]; rfl
    rw [hgd] at hr
    cases v <;> first | (cases he; done) | (cases he; rfl) | skip
    have := hr.bool
    cases this
end
end Go.Proofs.YtpnaenbpffhjfaaGreatDoor.Ev

namespace Go.Proofs.YtpnaenbpffhjfaaGreatDoor.Ev
section
variable {P : Program} {nt : Nat}
theorem aliased_made {ao : AO} {h : Hp} {id : Nat} (hf : famOf ao = 0) : aliased ao h id = .ok (h.set id ao) := by
 cases ao with
 | cells t size root => change root = 0 at hf; subst hf; rfl
 | _ => rfl
theorem light_step {o : Oper} {σ : Sg} {h : Hp} {nx : Nat} {w : World} {tm : Tr Value} {a : Act} {ro : Option Nat} (R : Rel σ h nx w) (T : TR σ nt tm a.tmps) :
  match (cLight P o.op).f tm h nx with
  | .no => True
  | .val v => ∃ v', VR σ v v' ∧ ∀ (next : Act → World → Prop) (Q : Exit → Act → World → Prop), next (a.put o.dst v') w → o.wpIn (FwR ro) 0 P a w next Q
  | .mk v ao => ∀ h', aliased ao h nx = .ok h' → ∃ v' w1 σ', Rel σ' h' (nx + 1) w1 ∧ Fwd σ h w σ' h' w1 ∧ VR σ' v v' ∧
    ∀ (next : Act → World → Prop) (Q : Exit → Act → World → Prop), next (a.put o.dst v') w1 → o.wpIn (FwR ro) 0 P a w next Q := by
 by_cases hnd : ∀ c, o.op ≠ .defer c
 ·have hG := cLight_good (P := P) o σ h nx w a tm nt nx R T (R.new nx (Nat.le_refl _)).1 (R.new nx (Nat.le_refl _)).2
  have fin : ∀ v' w1, (execOp a.eval o).run P w = .ok (.value v') w1 → ∀ (next : Act → World → Prop) (Q : Exit → Act → World → Prop), next (a.put o.dst v') w1 → o.wpIn (FwR ro) 0 P a w next Q := by
   intro v' w1 hr next Q hn
   refine ⟨fun _ _ => trivial, ?_⟩
   rw [Oper.semAt_eq _ _ _ hnd, hr]
   exact hn
  cases hres : (cLight P o.op).f tm h nx with
  | no => trivial
  | val v =>
   rw [hres] at hG
   obtain ⟨v', hr, hv⟩ := hG
   exact ⟨v', hv, fin v' w hr⟩
  | mk v ao =>
   rw [hres] at hG
   intro h' hal
   rcases hG with ⟨v', w1, i, ob, hr, hw, hos, htp, hout, hir, hf, hnf, hor, hv⟩ | ⟨_, v', hr, _, i, hv, hA⟩
   ·rw [aliased_made hf] at hal
    cases hal
    obtain ⟨R', F'⟩ := R.fresh (id := nx) (nx' := nx + 1) (R.new nx (Nat.le_refl _)).1 (fun x => Nat.lt_irrefl _ (R.rsv nx x).1) (R.new nx (Nat.le_refl _)).2 (by omega) (by omega) hw hos htp hout hf hnf hir hor
    exact ⟨v', w1, _, R', F', hv, fin v' w1 hr⟩
   ·obtain ⟨R', F'⟩ := hA (nx + 1) h' hal (Nat.le_refl _) (by omega)
    exact ⟨v', w, _, R', F', hv, fin v' w hr⟩
 ·obtain ⟨c, hc⟩ : ∃ c, o.op = .defer c := by
   refine Classical.byContradiction fun hh => hnd fun c hc => hh ⟨c, hc⟩
  rw [hc]
  trivial
theorem Fut.mono0 {σ : Sg} {h : Hp} {nx : Nat} {w : World} {S : Sx} {ro : Option Nat} {W V : (Exit → Act → World → Prop) → Prop} {res : C} (hx : Fut σ h nx w S nt ro W res) (hV : ∀ Q, W Q → V Q) : Fut σ h nx w S nt ro V res := by
 cases res with
 | no _ _ => trivial
 | ok e tm df h1 nx1 => exact fun Q hQ => hV Q (hx Q hQ)
theorem oper_good {ops : Array Oper} {rest : List Nat} {o : Oper} {p : KP} {k : KC} {place : String} (hp : cPut nt o.dst = some p) (hk : KSeq P ops rest nt k) {r : Rec} (G : RecGood P r)
  {S : Sx} {ro : Option Nat} {tm : Tr Value} {df : List DfE} {h : Hp} {nx : Nat} {σ : Sg} {w : World} {a : Act} (s : St σ h nx w S nt tm df a ro) :
  Fut σ h nx w S nt ro (fun Q => o.wpIn (FwR ro) 0 P a w (wpOpsIn (FwR ro) 0 P ops Q rest) Q) ((cOper P (heavy o.op) o.op place p k).f r S tm df h nx) := by
 -- the last step: from where the operation has left things
 have last : ∀ σ' h' nx' w1 v v', Rel σ' h' nx' w1 → Fwd σ h w σ' h' w1 → VR σ' v v' → nx ≤ nx' →
   ∀ e tm2 df2 h2 nx2, k.f r S (p.f tm v) df h' nx' = .ok e tm2 df2 h2 nx2 → ∀ Q : Exit → Act → World → Prop,
    (∀ σ2 a2 w2, St σ2 h2 nx2 w2 S nt tm2 df2 a2 ro → Fwd σ h w σ2 h2 w2 → nx ≤ nx2 → Q (exitOf e) a2 w2) → wpOpsIn (FwR ro) 0 P ops Q rest (a.put o.dst v') w1 := by
  intro σ' h' nx' w1 v v' R' F' hv hn e tm2 df2 h2 nx2 hres Q hQ
  have := hk r G S ro (p.f tm v) df h' nx' σ' w1 (a.put o.dst v') (s.next R' F' hn (cPut_good hp (TR.mono F'.sub s.T) hv) (put_defers _ _ _))
  rw [hres] at this
  exact this Q fun σ2 a2 w2 s2 f2 h9 => hQ σ2 a2 w2 s2 (F'.trans f2) (Nat.le_trans hn h9)
 cases hh : heavy o.op with
 | true =>
  show Fut σ h nx w S nt ro _ (heavyK ((cHeavy P o.op).f r tm h nx) place p k r S tm df)
  have hG := cHeavy_good (P := P) (o := o) (a := a) (ro := ro) G s.pos s.R s.T
  cases hres : (cHeavy P o.op).f r tm h nx with
  | no _ _ => trivial
  | ok v h' nx' =>
   rw [hres] at hG
   show Fut σ h nx w S nt ro _ (k.f r S (p.f tm v) df h' nx')
   cases hc : k.f r S (p.f tm v) df h' nx' with
   | no _ _ => trivial
   | ok e tm2 df2 h2 nx2 =>
    exact fun Q hQ => hG _ Q fun σ' v' w1 R' F' hv hn => last σ' h' nx' w1 v v' R' F' hv hn e tm2 df2 h2 nx2 hc Q hQ
 | false =>
  show Fut σ h nx w S nt ro _ (lightK ((cLight P o.op).f tm h nx) place p k r S tm df h nx)
  have hL := light_step (P := P) (o := o) (ro := ro) s.R s.T
  cases hres : (cLight P o.op).f tm h nx with
  | no => trivial
  | val v =>
   rw [hres] at hL
   obtain ⟨v', hv, hK⟩ := hL
   show Fut σ h nx w S nt ro _ (k.f r S (p.f tm v) df h nx)
   cases hc : k.f r S (p.f tm v) df h nx with
   | no _ _ => trivial
   | ok e tm2 df2 h2 nx2 =>
    exact fun Q hQ => hK _ Q (last σ h nx w v v' s.R (Fwd.refl _ _ _) hv (Nat.le_refl _) e tm2 df2 h2 nx2 hc Q hQ)
  | mk v ao =>
   rw [hres] at hL
   show Fut σ h nx w S nt ro _ (laidC (aliased ao h nx) place fun h => k.f r S (p.f tm v) df h (Nat.succ nx))
   cases hal : aliased ao h nx with
   | no => trivial
   | ok h' =>
    obtain ⟨v', w1, σ', R', F', hv, hK⟩ := hL h' hal
    show Fut σ h nx w S nt ro _ (k.f r S (p.f tm v) df h' (Nat.succ nx))
    cases hc : k.f r S (p.f tm v) df h' (Nat.succ nx) with
    | no _ _ => trivial
    | ok e tm2 df2 h2 nx2 =>
     exact fun Q hQ => hK _ Q (last σ' h' (nx + 1) w1 v v' R' F' hv (by omega) e tm2 df2 h2 nx2 hc Q hQ)
theorem df_good {ops : Array Oper} {rest : List Nat} {o : Oper} {p : KP} {k : KC} {place : String} (hp : cPut nt o.dst = some p) (hk : KSeq P ops rest nt k) {r : Rec} (G : RecGood P r)
  {S : Sx} {ro : Option Nat} {tm : Tr Value} {df : List DfE} {h : Hp} {nx : Nat} {σ : Sg} {w : World} {a : Act} (s : St σ h nx w S nt tm df a ro) :
  Fut σ h nx w S nt ro (fun Q => o.wpIn (FwR ro) 0 P a w (wpOpsIn (FwR ro) 0 P ops Q rest) Q) ((cDf P o.op place p k).f r S tm df h nx) := by
 by_cases hnd : ∀ c, o.op ≠ .defer c
 ·have e : cDf P o.op place p k = cOper P (heavy o.op) o.op place p k := by
   cases ho : o.op <;> first | rfl | exact (hnd _ ho).elim
  rw [e]
  exact oper_good hp hk G s
 ·obtain ⟨c, hc⟩ : ∃ c, o.op = .defer c := Classical.byContradiction fun hh => hnd fun c hc => hh ⟨c, hc⟩
  rw [hc]
  show Fut σ h nx w S nt ro _ ((match c.callee with | .value x => cDefer x (cOps c.args.toList) place p k | _ => kcNo "defer" place).f r S tm df h nx)
  cases hcl : c.callee with
  | value x =>
   show Fut σ h nx w S nt ro _ (dfK S.ro place (opv x tm) ((cOps c.args.toList).f tm) k r S (p.f tm undef) df h nx)
   have hro := s.ro
   cases hS : S.ro with
   | some _ => trivial
   | none =>
    rw [hS] at hro
    cases ro with
    | some _ => exact hro.elim
    | none =>
     have hxv := VR.opv s.T x
     have hxs : VRL σ ((cOps c.args.toList).f tm) (c.args.toList.map a.eval) := VRL.ops s.T c.args.toList
     cases hv : opv x tm with
     | func fn fa fb =>
      cases fn with
      | func g =>
       rw [hv] at hxv
       obtain ⟨a', b', hfe, ha, hb⟩ := hxv.funcI
       show Fut σ h nx w S nt none _ (k.f r S (p.f tm undef) (.call g (fa.toList ++ ((cOps c.args.toList).f tm ++ fb.toList)) :: df) h nx)
       have hrun : (execOp a.eval o).run P w = .ok (.defer { target := .fn (.func g) ⟨b'⟩, args := (⟨a'⟩ : Array Value) ++ c.args.map a.eval }) w := by
        unfold execOp
        simp only [hc]
        have hres : (resolve a.eval c o.type).run P w = .ok { target := .fn (.func g) ⟨b'⟩, args := (⟨a'⟩ : Array Value) ++ c.args.map a.eval } w := by
         unfold resolve
         simp only [hcl, hfe]
         rfl
        rw [run_b hres]
        rfl
       have hD : DR σ (.call g (fa.toList ++ ((cOps c.args.toList).f tm ++ fb.toList)) :: df) ({ target := .fn (.func g) ⟨b'⟩, args := (⟨a'⟩ : Array Value) ++ c.args.map a.eval } :: a.defers) := by
        refine ⟨⟨⟨b'⟩, _, rfl, ?_⟩, s.D⟩
        have e2 : ((⟨a'⟩ : Array Value) ++ c.args.map a.eval).toList ++ (⟨b'⟩ : Array Value).toList = a' ++ (c.args.toList.map a.eval ++ b') := by simp
        rw [e2]
        exact ha.append (hxs.append hb)
       have hgo := hk r G S none (p.f tm undef) (.call g (fa.toList ++ ((cOps c.args.toList).f tm ++ fb.toList)) :: df) h nx σ w ({ a with defers := { target := .fn (.func g) ⟨b'⟩, args := (⟨a'⟩ : Array Value) ++ c.args.map a.eval } :: a.defers }.put o.dst undef)
        ⟨s.R, s.pos, s.snt, cPut_good (a := { a with defers := { target := .fn (.func g) ⟨b'⟩, args := (⟨a'⟩ : Array Value) ++ c.args.map a.eval } :: a.defers }) hp s.T VR.undef, by rw [put_defers]; exact hD, s.ro⟩
       refine Fut.mono0 hgo fun Q hQ => ⟨fun _ _ => trivial, ?_⟩
       show o.uponIn (FwR none) 0 P a _ Q ((o.semAt none a.eval).run P w)
       rw [Oper.semAt_none, hrun]
       exact hQ
      | _ => trivial
     | _ => trivial
  | _ => trivial
theorem one_good {ops : Array Oper} {i : Nat} {rest : List Nat} {o : Oper} {k : KC} (ho : ops[i]? = some o) (hk : KSeq P ops rest nt k) : KSeq P ops (i :: rest) nt (cOne P nt ops.toList o k) := by
 intro r G S ro tm df h nx σ w a s
 unfold cOne
 cases hp : cPut nt o.dst with
 | none => trivial
 | some p =>
  simp only
  have hw : ∀ {W : (Exit → Act → World → Prop) → Prop} {res : C}, (∀ Q, W Q → wpOpsIn (FwR ro) 0 P ops Q (i :: rest) a w) → Fut σ h nx w S nt ro W res → Fut σ h nx w S nt ro (fun Q => wpOpsIn (FwR ro) 0 P ops Q (i :: rest) a w) res := by
   intro W res h1 h2
   cases res with
   | no _ _ => trivial
   | ok e tm2 df2 h2' nx2 => exact fun Q hQ => h1 Q (h2 Q hQ)
  have yes : Region.wanted o (yielded ops a.tmps) = true → Fut σ h nx w S nt ro (fun Q => wpOpsIn (FwR ro) 0 P ops Q (i :: rest) a w) ((cDf P o.op (plc o) p k).f r S tm df h nx) := fun hwd =>
   hw (fun Q h1 => by
    simp only [wpOpsIn, ho, hwd, if_true]
    exact h1) (df_good hp hk G s)
  have no : Region.wanted o (yielded ops a.tmps) = false → Fut σ h nx w S nt ro (fun Q => wpOpsIn (FwR ro) 0 P ops Q (i :: rest) a w) ((cSkip p k).f r S tm df h nx) := fun hwd => by
   have h1 := hk r G S ro (p.f tm undef) df h nx σ w (a.put o.dst undef) (s.next s.R (Fwd.refl _ _ _) (Nat.le_refl _) (cPut_good hp s.T VR.undef) (put_defers _ _ _))
   refine hw (fun Q h2 => ?_) h1
   simp only [wpOpsIn, ho, hwd, Bool.false_eq_true, if_false]
   exact ⟨fun _ _ => trivial, h2⟩
  unfold cGuarded
  cases hg : o.guard with
  | none => exact yes (by unfold Region.wanted; rw [hg])
  | some q =>
   obtain ⟨j, want⟩ := q
   show Fut σ h nx w S nt ro _ (match (cGuardD want (gdst ops.toList j)).f tm with
    | some true => (cDf P o.op (plc o) p k).f r S tm df h nx
    | some false => (cSkip p k).f r S tm df h nx
    | none => C.no "guard" (plc o))
   cases hgd : (cGuardD want (gdst ops.toList j)).f tm with
   | none => trivial
   | some b =>
    have := guard_good hg s.T hgd
    cases b with
    | true => exact yes this
    | false => exact no this
theorem seq_good {ops : Array Oper} : ∀ (l : List Oper) (i : Nat), ops.toList.drop i = l → KSeq P ops (List.range' i l.length) nt (cSeq P nt ops.toList l) := by
 intro l
 induction l with
 | nil => exact fun i _ r G S ro tm df h nx σ w a s Q hQ => hQ σ a w s (Fwd.refl _ _ _) (Nat.le_refl _)
 | cons o l ih =>
  intro i hi
  have ho : ops[i]? = some o := by
   have : (ops.toList.drop i)[0]? = some o := by rw [hi]; rfl
   rw [List.getElem?_drop] at this
   simpa using this
  have hd : ops.toList.drop (i + 1) = l := by
   rw [← List.drop_drop, hi]; rfl
  exact one_good ho (ih (i + 1) hd)
end
end Go.Proofs.YtpnaenbpffhjfaaGreatDoor.Ev

