/- The evaluator, part 6: the contract of slices.Sorted at the keys of a map, out of the library's proofs. No program in sight; no conditions. -/
import Derived.Test.YtpaaopmmmfjkhaaGreatDoorEx5
import Derived.Shelf.SlIter.Nil
import Derived.Shelf.SlIterI.Nil
import Derived.ChangeArms
import Derived.DataReads
set_option linter.unusedVariables false
set_option linter.unusedSimpArgs false
namespace Go.Proofs.YtpaaopmmmfjkhaaGreatDoor.Ev
open Go.Proofs Go.RowKit Go.Maps Go.Sort Go.Shelf Go.MapKept Go.ChangeMaps
open Go.WideElems (Fit rd rg rg_of rd_mk)
def RU : Value → Option (DataW Unit × List MemPlace) := fun _ => some (.lit (.bool true), [])
theorem ownsMap_keys {α : Type} {P : Program} {k : TypeId} {enc : α → Value} {un : Lit → α} (hinj : ∀ a b, enc a = enc b → a = b)
  {w : World} {mb : Nat} {es : Array MapEntry} {clock : Nat} {ks : List α} (hw : w.heap[mb]? = some (.map es clock)) (hn : es.size ≤ 1000) (hst : Stamped es clock) (he : es.toList.map (·.key) = ks.map enc)
  (hkey : ∀ x ∈ ks, ∃ kl, keyOf P k (enc x) = some kl ∧ un kl = x) :
  ∃ l : List (Lit × DataW Unit), w.ownsMap P k RU mb es.size (.map l) ∧ l.length = es.size ∧ (l.map fun p => un p.1).Perm ks := by
 have hread : ∀ x ∈ es.toList, ∃ s ∈ ks, ∃ kl, enc s = x.key ∧ un kl = s ∧ rd P k RU x = some (kl, .lit (.bool true)) := by
  intro x hx
  have : x.key ∈ es.toList.map (·.key) := List.mem_map_of_mem hx
  rw [he] at this
  obtain ⟨s, hs, e⟩ := List.mem_map.1 this
  obtain ⟨kl, h1, h2⟩ := hkey s hs
  refine ⟨s, hs, kl, e, h2, ?_⟩
  obtain ⟨key, val, born⟩ := x
  simp only at e
  subst e
  exact rd_mk (R := RU) (yv := (.lit (.bool true), [])) h1 rfl
 refine ⟨(es.toList.map (rg P k RU)).foldr DataW.insert [], ⟨es, clock, hw, ⟨Nat.le_trans hn (by decide), hst, fun x hx => ?_⟩, Nat.le_refl _, rfl⟩, ?_, ?_⟩
 ·obtain ⟨s, _, kl, _, _, h⟩ := hread x hx; exact ⟨_, h⟩
 ·rw [(Go.WideShapes.sorted_perm _).length_eq, List.length_map, Array.length_toList]
 ·refine ((Go.WideShapes.sorted_perm _).map fun p => un p.1).trans ?_
  rw [List.map_map]
  have : (es.toList.map ((fun p => un p.1) ∘ rg P k RU)).map enc = ks.map enc := by
   rw [← he, List.map_map]
   refine List.map_congr_left fun x hx => ?_
   obtain ⟨s, _, kl, e1, e2, h⟩ := hread x hx
   show enc (un (rg P k RU x).1) = x.key
   rw [rg_of h]
   simp only [e2, e1]
  have e : es.toList.map ((fun p => un p.1) ∘ rg P k RU) = ks := by
   revert this
   generalize es.toList.map ((fun p => un p.1) ∘ rg P k RU) = a
   intro this
   induction a generalizing ks with
   | nil => cases ks with
    | nil => rfl
    | cons _ _ => cases this
   | cons x a ih => cases ks with
    | nil => cases this
    | cons y ks =>
     simp only [List.map_cons, List.cons.injEq] at this
     rw [hinj _ _ this.1]
     congr 1
     exact (List.map_inj_right (f := enc) (fun a b h => hinj a b h)).1 this.2
  rw [e]
theorem leU_antisymm : ∀ a b : List UInt8, a ≤ b → b ≤ a → a = b := fun a b h1 h2 => List.le_antisymm h1 h2
theorem sorted_le (l : List (List UInt8)) : (l.mergeSort fun x y => decide (x ≤ y)).Pairwise (· ≤ ·) := by
 have := List.pairwise_mergeSort (le := fun x y : List UInt8 => decide (x ≤ y)) (fun a b c h1 h2 => by simp only [decide_eq_true_eq] at *; exact List.le_trans h1 h2) (fun a b => by simp only [Bool.or_eq_true, decide_eq_true_eq]; exact List.le_total a b) l
 exact this.imp fun h => by simpa using h
theorem sorted_leI (l : List Int) : (l.mergeSort fun x y => decide (x ≤ y)).Pairwise (· ≤ ·) := by
 have := List.pairwise_mergeSort (le := fun x y : Int => decide (x ≤ y)) (fun a b c h1 h2 => by simp only [decide_eq_true_eq] at *; omega) (fun a b => by simp only [Bool.or_eq_true, decide_eq_true_eq]; omega) l
 exact this.imp fun h => by simpa using h
variable {P : Program}
theorem sorts_str {ρk ρs : Go.Shelf.Ren} (Lk : SlLaysZ.n10 P ρk) (Ls : SlLaysZ.n6 P ρs) (hsort : AnyZ.SortsIn P ρs Fence.wide 4) (e9 : ∀ args w, (callFunc (ρs.f 9) args).run P w = .ok (.enter (ρs.f 9) args) w)
  (eg : ∀ args w, (callFunc (ρk.f 10) args).run P w = .ok (.enter (ρk.f 10) args) w) : SortsKeys P (ρs.f 6) (ρk.f 10) encS (fun a b : List UInt8 => a ≤ b) okS where
 anti := leU_antisymm
 inj a b h := encStr_inj h
 enter := Ls.f6.enters rfl
 calls w bm mb es clock ks hbm hcell hw hn hst he hok hne := by
  obtain ⟨l, hown, hlen, hperm⟩ := ownsMap_keys (P := P) (k := ρk.t 26) (enc := encStr) (un := Go.strOf) (fun a b h => encStr_inj h) hw hn hst he (fun x hx => by
   have hx1 : x.length ≤ 1000 := ble_true.1 (List.all_eq_true.1 hok x hx)
   refine ⟨.string x, ?_, rfl⟩
   have h1 : x.length ≤ maxLen := Nat.le_trans hx1 (by decide)
   simp [keyOf, Lk.t26, mapKey, encStr, ByteArray.size, h1])
  have hseq := AnyZ.keys_gives (ρ := ρk) Lk Fence.wide 2 trivial rfl (by omega) bm mb es.size (.map l) w hbm hcell hown
  have hS := AnyZ.sorted_in Ls Fence.wide 5 trivial trivial trivial trivial rfl (by omega) hsort e9 (ρk.f 10) #[.pointer (some ⟨bm, 0, none⟩)] trivial eg _ _ (by
    show l.length ≤ maxLen
    rw [hlen]; exact Nat.le_trans hn (by decide)) (by show l.length * 16 ≤ _; rw [hlen]; omega) w hseq
  refine callsIn_wide.2 (callsIn_wide.1 (hS.mono ?_))
  rintro e w1 ⟨v, ss, rfl, hp, hrow, hnil, hb⟩
  refine ⟨v, _, ss.mergeSort fun x y => decide (x ≤ y), rfl, (List.mergeSort_perm _ _).trans (hp.trans hperm), sorted_le _, by rw [List.length_mergeSort]; exact hrow, ?_, hb⟩
  rw [hnil]
  constructor
  ·intro h; subst h; simp
  ·intro h
   have := List.length_mergeSort (le := fun x y : List UInt8 => decide (x ≤ y)) ss
   rw [h] at this
   exact List.length_eq_zero_iff.1 this.symm
theorem sorts_int {ρk ρs : Go.Shelf.Ren} (Lk : SlLaysZI.n10 P ρk) (Ls : SlLaysZI.n6 P ρs) (hsort : AnyZI.SortsIn P ρs Fence.wide 4) (e9 : ∀ args w, (callFunc (ρs.f 9) args).run P w = .ok (.enter (ρs.f 9) args) w)
  (eg : ∀ args w, (callFunc (ρk.f 10) args).run P w = .ok (.enter (ρk.f 10) args) w) : SortsKeys P (ρs.f 6) (ρk.f 10) encI (fun a b : Int => a ≤ b) okI where
 anti a b h1 h2 := by omega
 inj a b h := encZ_inj h
 enter := Ls.f6.enters rfl
 calls w bm mb es clock ks hbm hcell hw hn hst he hok hne := by
  obtain ⟨l, hown, hlen, hperm⟩ := ownsMap_keys (P := P) (k := ρk.t 26) (enc := encZ) (un := Go.intOf) (fun a b h => encZ_inj h) hw hn hst he (fun x hx => by
   have hx1 := okI_range (List.all_eq_true.1 hok x hx)
   refine ⟨.int .i64 x, ?_, rfl⟩
   have h1 : (Lit.int .i64 x).wf = true := by
    simp only [Lit.wf, Bool.and_eq_true, decide_eq_true_eq]
    have e1 : IntKind.i64.max = 9223372036854775807 := by rfl
    have e2 : IntKind.i64.min = -9223372036854775808 := by rfl
    rw [e1, e2]; exact hx1
   simp [keyOf, Lk.t26, mapKey, encZ, h1])
  have hseq := AnyZI.keys_gives (ρ := ρk) Lk Fence.wide 2 trivial rfl (by omega) bm mb es.size (.map l) w hbm hcell hown
  have hS := AnyZI.sorted_in Ls Fence.wide 5 trivial trivial trivial trivial rfl (by omega) hsort e9 (ρk.f 10) #[.pointer (some ⟨bm, 0, none⟩)] trivial eg _ _ (by
    show l.length ≤ maxLen
    rw [hlen]; exact Nat.le_trans hn (by decide)) (by show l.length * 8 ≤ _; rw [hlen]; omega) w hseq
  refine callsIn_wide.2 (callsIn_wide.1 (hS.mono ?_))
  rintro e w1 ⟨v, ss, rfl, hp, hrow, hnil, hb⟩
  refine ⟨v, _, ss.mergeSort fun x y => decide (x ≤ y), rfl, (List.mergeSort_perm _ _).trans (hp.trans hperm), sorted_leI _, by rw [List.length_mergeSort]; exact hrow, ?_, hb⟩
  rw [hnil]
  constructor
  ·intro h; subst h; simp
  ·intro h
   have := List.length_mergeSort (le := fun x y : Int => decide (x ≤ y)) ss
   rw [h] at this
   exact List.length_eq_zero_iff.1 this.symm
end Go.Proofs.YtpaaopmmmfjkhaaGreatDoor.Ev

namespace Go.Proofs.YtpaaopmmmfjkhaaGreatDoor.Ev
noncomputable def lentH (vs : List Value) : Hp := hpOf [(61, .tab vs)]
def lentSg (w : World) (r off fin esz : Nat) : Sg := Sg.add (Sg.start w) 61 { r, shift := off, fin, esz }
theorem lentH_get {vs : List Value} {b : Nat} {o : AO} (h : (lentH vs).get b = some o) : b = 61 ∧ o = .tab (Tr.ofL vs) vs.length := by
 obtain ⟨lo, h1, h2⟩ := hpOf_get h
 simp only [List.mem_cons, List.not_mem_nil, or_false, Prod.mk.injEq] at h1
 obtain ⟨rfl, rfl⟩ := h1
 exact ⟨rfl, h2⟩
theorem start_le_lent (w : World) (r off fin esz : Nat) : Sg.le (Sg.start w) (lentSg w r off fin esz) := Sg.le_add (start_none (Nat.le_refl _)) _
theorem rel_lent {nx : Nat} (hnx : 62 ≤ nx) {w : World} {r off fin esz : Nat} {vs : List Value} {cs : Array Value} {el : TypeId} {fr : Nat × Nat} (hc : w.heap[r]? = some (.cells cs el fr)) (hsz : off + vs.length ≤ cs.size)
  (hv : ∀ (k : Nat) (v : Value), vs[k]? = some v → ∃ v', cs[off + k]? = some v' ∧ VR (Sg.start w) v v') : Rel (lentSg w r off fin esz) (lentH vs) nx w := by
 have hle := start_le_lent w r off fin esz
 refine ⟨fun b o h => ?_, fun b hb => ⟨?_, ?_⟩, fun b la al h => ?_, fun b1 b2 o1 o2 i1 i2 h1 h2 _ _ s1 s2 hne hr => ?_, fun b o L oL i iL al h _ hf => ?_, fun b o L al h hf => ?_, fun _ h => h.elim, (start_gl w).mono hle.fn⟩
 ·obtain ⟨rfl, rfl⟩ := lentH_get h
  refine .inr ⟨_, Sg.add_eq _ _ _, (Array.getElem?_eq_some_iff.1 hc).1, fun _ => ⟨cs, el, fr, hc, hsz, trivial, fun k v hk h => ?_⟩⟩
  rw [Tr.get_ofL] at h
  obtain ⟨v', g1, g2⟩ := hv k v h
  exact ⟨v', g1, g2.mono hle.fn⟩
 ·rw [lentSg, Sg.add_ne _ _ (by omega)]
  exact start_none (by omega)
 ·cases hg : (lentH vs).get b with
  | none => rfl
  | some o => obtain ⟨e, _⟩ := lentH_get hg; omega
 ·obtain ⟨_, e⟩ := lentH_get h; cases e
 ·obtain ⟨e1, _⟩ := lentH_get h1
  obtain ⟨e2, _⟩ := lentH_get h2
  exact (hne (e1.trans e2.symm)).elim
 ·obtain ⟨_, e⟩ := lentH_get h; subst e; exact (hf rfl).elim
 ·obtain ⟨_, e⟩ := lentH_get h; subst e; exact (hf rfl).elim
noncomputable def rowLOk (E : Env) (fuel depth nx : Nat) (vs : List Value) (r : Row) : Bool := match bodyO (fnAt E.P r.g) with
 | true => match flat r.v with
  | true => isOk r.v ((ev E fuel depth).call r.g r.a (lentH vs) nx)
  | false => false
 | false => false
section
variable {P : Program} {X : List (Nat × Ext)} {S : List (Nat × Nat × Bool)} {T : List Row} {U : List RowH} {fuel depth nx : Nat}
theorem rowL_good (h : ProgOK P X S) (hT : ∀ r ∈ T, RowGood P r) (hU : ∀ p ∈ U, RowHGood P p.g p.r) (K : List Nat) (hpos : 62 ≤ nx) {vs : List Value} {r : Row} (hr : rowLOk (envK P X S T U K) fuel depth nx vs r = true) {w : World} {σ : Sg} (R : Rel σ (lentH vs) nx w) {args' : List Value} (ha : VRL σ r.a args') :
  Calls P r.g ⟨args'⟩ w fun e w1 => e = .returned r.v ∧ RowKit.Below w.heap.size w w1 := by
 unfold rowLOk at hr
 rw [fnAt_eq] at hr
 cases hb : bodyO ((envK P X S T U K).P.funcs[r.g]?) with
 | false => rw [hb] at hr; cases hr
 | true =>
  rw [hb] at hr
  cases hv : flat r.v with
  | false => rw [hv] at hr; cases hr
  | true =>
   rw [hv] at hr
   simp only at hr
   refine callsIn_wide.1 (closed_from (E := envK P X S T U K) (fuel := fuel) (depth := depth) (draw_good h.draws) h.names (h.ext T U) (ov_good hT) (hv_good hU) h.sr (nx := nx) (by omega) hb R (fun b o hg => by obtain ⟨_, e⟩ := lentH_get hg; subst e; trivial) ha hv ?_).2
   unfold isOk at hr
   cases hres : (ev (envK P X S T U K) fuel depth).call r.g r.a (lentH vs) nx with
   | no _ _ => rw [hres] at hr; cases hr
   | ok u h' nx' => rw [hres] at hr; exact sameV_eq _ _ hr
end
section
variable {H : Type} {enc : TypeId × Value → H} {P : Program} {w : World} {base : Nat} {spare : Nat → Bool} {held : Bool}
theorem cell_trod {n : Nat} {t : TypeId} {c : Value} {x : DataW H × List MemPlace} (σ : Sg) (d : TypeDesc) (hd : P.underlying t = some d) (h : DataW.trod enc P w base spare held n t [c] = some x) : VR σ (unkT (some d)) c := by
 cases d with
 | int k =>
  obtain ⟨i, e, _⟩ := DataW.trod_int hd h
  cases e
  cases k <;> first | exact .bad 0 _ | exact arg_i64 σ i
 | bool =>
  obtain ⟨i, e, _⟩ := DataW.trod_bool hd h
  cases e
  exact .unk 2 "" _ _ _ ⟨i, rfl⟩
 | string =>
  obtain ⟨i, e, _⟩ := DataW.trod_string hd h
  cases e
  exact .unk 3 "" _ _ _ ⟨i, rfl⟩
 | slice e =>
  rcases DataW.trod_slice hd h with ⟨e, _⟩ | ⟨a, len, cap, _, _, _, _, e, _⟩
  ·cases e; exact .unk 4 "" _ _ _ ⟨_, _, _, rfl⟩
  ·cases e; exact .unk 4 "" _ _ _ ⟨_, _, _, rfl⟩
 | _ => exact .bad 0 c
theorem rep_get {R : Value → Value → Prop} {f : Nat → Option Value} {us : List Value} : ∀ (n o : Nat), (∀ i, i < n → ∀ (j : Nat) (u : Value), us[j]? = some u → ∃ v', f (o + (i * us.length + j)) = some v' ∧ R u v') →
  ∀ (k : Nat) (u : Value), (List.replicate n us).flatten[k]? = some u → ∃ v', f (o + k) = some v' ∧ R u v'
 | 0, o, _, k, u, h => by simp at h
 | n + 1, o, hf, k, u, h => by
  rw [List.replicate_succ, List.flatten_cons] at h
  rcases Nat.lt_or_ge k us.length with hk | hk
  ·rw [List.getElem?_append_left hk] at h
   obtain ⟨v', a, b⟩ := hf 0 (by omega) k u h
   exact ⟨v', by rw [← a]; congr 1; omega, b⟩
  ·rw [List.getElem?_append_right hk] at h
   obtain ⟨v', a, b⟩ := rep_get n (o + us.length) (fun i hi j u hu => by
    obtain ⟨v', a, b⟩ := hf (i + 1) (by omega) j u hu
    exact ⟨v', by rw [← a]; congr 1; rw [Nat.succ_mul]; omega, b⟩) (k - us.length) u h
   exact ⟨v', by rw [← a]; congr 1; omega, b⟩
theorem cells_some {w : World} {base : Nat} {a : Addr} {n : Nat} {cs : List Value} (h : w.cells? base a n = some cs) : cs.length = n ∧ ∀ i, i < n → w.cell? (a.add i) = cs[i]? := by
 unfold World.cells? at h
 split at h
 ·refine ⟨by simpa using mapM_some_length h, fun i hi => mapM_some_get h i i (by simp [hi])⟩
 ·cases h
theorem lent_arg {t e : TypeId} {us : List Value} (ht : P.underlying t = some (.slice e)) (hz : P.cellsOf e = us.length) (h1 : 1 ≤ us.length)
  (hcell : ∀ (n : Nat) (cs : List Value) (x : DataW H × List MemPlace), DataW.trod enc P w base spare held n e cs = some x → VRL (Sg.start w) us cs)
  {v : Value} (hsl : ∃ a l c, v = .slice a l c) {d : DataW H} {p : List MemPlace} (hk : DataW.Trod enc P w base spare held t v d p) :
  v = .slice none 0 0 ∨ (∃ a cap, v = .slice (some a) 0 cap) ∨ ∃ (r off n cap : Nat) (cs : Array Value) (el : TypeId) (fr : Nat × Nat), v = .slice (some ⟨r, off, none⟩) n cap ∧ 1 ≤ n ∧ n ≤ cap ∧
   w.heap[r]? = some (.cells cs el fr) ∧ off + n * us.length ≤ cs.size ∧ ∀ m, m ≤ n → ∀ (k : Nat) (u : Value), (List.replicate m us).flatten[k]? = some u → ∃ v', cs[off + k]? = some v' ∧ VR (Sg.start w) u v' := by
 obtain ⟨fuel, hk⟩ := hk
 obtain ⟨sa, len, cap, rfl⟩ := hsl
 rcases DataW.trod_slice ht hk with ⟨e1, _⟩ | ⟨a, len2, cap2, elems, rest, n, _, e1, _, _, hlc, _, hlen, hel, _⟩
 ·left
  simp only [Value.cells, List.cons.injEq, and_true] at e1
  exact e1
 ·simp only [Value.cells, List.cons.injEq, and_true] at e1
  cases e1
  rcases Nat.eq_zero_or_pos len with h0 | h0
  ·subst h0
   exact .inr (.inl ⟨a, cap, rfl⟩)
  ·right; right
   have row : ∀ i, i < len → ∃ ci : List Value, ci.length = us.length ∧ VRL (Sg.start w) us ci ∧ ∀ j, j < us.length → w.cell? ((a.add (i * us.length)).add j) = ci[j]? := by
    intro i hi
    have h2 := hel i hi
    rw [hz] at h2
    rw [List.getElem?_eq_getElem (by omega)] at h2
    obtain ⟨ci, hc, htr⟩ := Option.bind_eq_some_iff.1 h2
    obtain ⟨l1, l2⟩ := cells_some hc
    exact ⟨ci, l1, hcell _ _ _ htr, l2⟩
   obtain ⟨c0, l0, _, g0⟩ := row 0 h0
   have z0 : w.cell? a = c0[0]? := by
    have := g0 0 (by omega)
    simpa [Addr.add] using this
   rw [List.getElem?_eq_getElem (by omega)] at z0
   have hsp := World.cell?_spot z0
   obtain ⟨r, off, sp⟩ := a
   simp only at hsp
   subst hsp
   obtain ⟨cs, el, fr, hb⟩ : ∃ cs el fr, w.heap[r]? = some (.cells cs el fr) := by
    unfold World.cell? at z0
    split at z0
    ·rename_i c x y hb; exact ⟨_, _, _, hb⟩
    ·cases z0
   have hadd : ∀ x y : Nat, (Addr.add (Addr.add ⟨r, off, none⟩ x) y) = ⟨r, off + (x + y), none⟩ := by
    intro x y
    simp only [Addr.add]
    split <;> split <;> simp_all <;> omega
   have at_ : ∀ i, i < len → ∀ (j : Nat) (u : Value), us[j]? = some u → ∃ v', cs[off + (i * us.length + j)]? = some v' ∧ VR (Sg.start w) u v' := by
    intro i hi j u hu
    obtain ⟨ci, l1, l2, l3⟩ := row i hi
    have hj : j < us.length := (List.getElem?_eq_some_iff.1 hu).1
    obtain ⟨v', a1, a2⟩ := l2.get j u hu
    have := l3 j hj
    rw [hadd, cell_at hb] at this
    exact ⟨v', by rw [this]; exact a1, a2⟩
   refine ⟨r, off, len, cap, cs, el, fr, rfl, h0, hlc, hb, ?_, fun m hm k u hu => rep_get m off (fun i hi => at_ i (by omega)) k u hu⟩
   obtain ⟨v', a1, _⟩ := at_ (len - 1) (by omega) (us.length - 1) _ (List.getElem?_eq_getElem (by omega))
   have := (Array.getElem?_eq_some_iff.1 a1).1
   have e2 : (len - 1) * us.length + us.length = len * us.length := by
    rw [← Nat.succ_mul]; congr 1; omega
   omega
theorem lent_known {nx r off n cap : Nat} {us : List Value} {cs : Array Value} {el : TypeId} {fr : Nat × Nat} (hnx : 62 ≤ nx) (h1 : 1 ≤ us.length) (hn : n ≤ cap) (hb : w.heap[r]? = some (.cells cs el fr)) (hs : off + n * us.length ≤ cs.size)
  (hv : ∀ (k : Nat) (u : Value), (List.replicate n us).flatten[k]? = some u → ∃ v', cs[off + k]? = some v' ∧ VR (Sg.start w) u v') :
  ∃ σ, Rel σ (lentH (List.replicate n us).flatten) nx w ∧ VR σ (.slice (some ⟨61, 0, some us.length⟩) n n) (.slice (some ⟨r, off, none⟩) n cap) := by
 refine ⟨lentSg w r off (off + cap * us.length) us.length, rel_lent hnx hb ?_ hv, ?_⟩
 ·simpa [List.length_flatten, List.map_replicate, List.sum_replicate_nat] using hs
 ·have := VR.slo (σ := lentSg w r off (off + cap * us.length) us.length) 61 0 _ n n us.length cap (Sg.add_eq _ _ _) rfl h1 hn rfl
  exact this
theorem lent_more {nx r off n cap m : Nat} {us : List Value} {cs : Array Value} {el : TypeId} {fr : Nat × Nat} (hnx : 62 ≤ nx) (hm : m ≤ n) (hb : w.heap[r]? = some (.cells cs el fr)) (hs : off + n * us.length ≤ cs.size)
  (hv : ∀ (k : Nat) (u : Value), (List.replicate m us).flatten[k]? = some u → ∃ v', cs[off + k]? = some v' ∧ VR (Sg.start w) u v') :
  ∃ σ, Rel σ (lentH (List.replicate m us).flatten) nx w ∧ VR σ (.func (.methodOf 6 "") ⟨[.slice (some ⟨61, 0, none⟩) m m]⟩ ⟨[]⟩) (.slice (some ⟨r, off, none⟩) n cap) := by
 refine ⟨lentSg w r off 0 0, rel_lent hnx hb ?_ hv, ?_⟩
 ·have : m * us.length ≤ n * us.length := Nat.mul_le_mul_right _ hm
  have e : (List.replicate m us).flatten.length = m * us.length := by simp [List.length_flatten, List.map_replicate, List.sum_replicate_nat]
  omega
 ·have := VR.long (σ := lentSg w r off 0 0) "" ⟨[]⟩ 61 0 m _ n cap (Sg.add_eq _ _ _) hm
  exact this
end
end Go.Proofs.YtpaaopmmmfjkhaaGreatDoor.Ev

