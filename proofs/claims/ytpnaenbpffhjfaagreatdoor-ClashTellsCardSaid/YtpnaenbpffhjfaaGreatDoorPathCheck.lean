/- path.Check: why a text is no path. -/
import Derived.Test.YtpnaenbpffhjfaaGreatDoorSplitSeq
import Derived.Test.YtpnaenbpffhjfaaGreatDoorPathPart
set_option linter.unusedVariables false
namespace Go.Proofs.YtpnaenbpffhjfaaGreatDoor
open Go.RowKit Go.Shelf PX
attribute [local go_sem] Oper.semAt_some

set_option maxHeartbeats 400000 in
theorem splitSeq_in (s : ByteArray) (w : World) :
    Calls Tryz.prog 90 #[.string s, .string ⟨#[47]⟩] w fun e w' => e = .returned (.func (.func 183) #[] #[.pointer (some ⟨w.heap.size + 1, 0, none⟩), .pointer (some ⟨w.heap.size, 0, none⟩), .pointer (some ⟨w.heap.size + 2, 0, none⟩)]) ∧
      w' = ((w.alloc (.cells #[.string s] 9)).alloc (.cells #[.string ⟨#[47]⟩] 9)).alloc (.cells #[.int .i64 0] 3) := by
  go_enter Tryz.func90, Tryz.ntmps90
  go_wp2
  go_ret
  exact ⟨rfl, rfl⟩

def okp (pre : List ByteArray) : Bool := decide (pre.length ≤ 6) && pre.all (fun x => partL x.data.toList)
theorem ret_intC {k : IntKind} {a b : Int} (h : a = b) : Ending.returned (.int k a) = .returned (.int k b) := by rw [h]
theorem okp_check (s : ByteArray) : checkL s.data.toList = okp (pieces s) := by
  unfold checkL okp pieces
  rw [List.length_map, List.all_map]; rfl
theorem okp_prefix {a b : List ByteArray} (h : a <+: b) (hb : okp b = true) : okp a = true := by
  obtain ⟨c, rfl⟩ := h
  simp only [okp, Bool.and_eq_true, decide_eq_true_eq, List.all_append, List.length_append] at hb ⊢
  exact ⟨by omega, hb.2.1⟩
theorem okp_snoc (pre : List ByteArray) (x : ByteArray) (h : okp pre = true) : okp (pre ++ [x]) = (decide (pre.length + 1 ≤ 6) && partL x.data.toList) := by
  simp only [okp, Bool.and_eq_true, decide_eq_true_eq] at h
  simp [okp, List.all_append, h.2]
theorem splitL_size (l : Bs) : ∀ x ∈ splitL l, x.length ≤ l.length := by
  induction l with
  | nil => simp [splitL]
  | cons c t ih =>
    simp only [splitL]
    split
    · intro x hx
      rcases List.mem_cons.1 hx with rfl | hx
      · simp
      · have := ih x hx; simp; omega
    · split
      · rename_i h2; exact absurd h2 (splitL_ne t)
      · rename_i h0 r h2
        intro x hx
        rcases List.mem_cons.1 hx with rfl | hx
        · have := ih h0 (by rw [h2]; simp); simp; omega
        · have := ih x (by rw [h2]; simp [hx]); simp; omega
theorem pieces_size {s x : ByteArray} (h : x ∈ pieces s) : x.size ≤ s.size := by
  obtain ⟨l, hl, rfl⟩ := List.mem_map.1 h
  have := splitL_size _ l hl
  rw [Lib.size_eq, Lib.size_eq s]; exact this

theorem keeps_below {W W' : World} (hb : Below W.heap.size W W') : KeepsOthers W W' :=
  ⟨hb.size, fun k o hk _ => (hb.block k (Array.getElem?_eq_some_iff.1 hk).1).trans hk⟩
theorem boxed_below {n : Nat} {W W' : World} {B : Nat} {t : TypeId} {v : Value} (h : Boxed W B t v) (hb : Below n W W') (hB : B < n) : Boxed W' B t v := (hb.block B hB).trans h
theorem boxed_set_ne {W : World} {B b : Nat} {t : TypeId} {v : Value} (h : Boxed W B t v) (u : Value) (hne : B ≠ b) : Boxed (W.setCell ⟨b, 0, none⟩ u) B t v := (Below.heap_setCell _ _ _ _ hne).trans h
theorem boxed_from {W W' : World} {n B : Nat} {t : TypeId} {v : Value} {row : Option Nat} (h : Boxed W B t v) (hg : W.grownBy W' row) (hr : ∀ r, row = some r → n ≤ r ∧ ∃ o : Obj, W.heap[r]? = some o ∧ o.isCells = false) : Boxed W' B t v := by
  refine h.kept hg (fun e => ?_)
  obtain ⟨_, o, ho, hc⟩ := hr B e.symm
  have h' : W.heap[B]? = some (.cells #[v] t (0, 0)) := h
  rw [h'] at ho; cases ho; cases hc
theorem setCell_size (W : World) (a : Addr) (v : Value) : (W.setCell a v).heap.size = W.heap.size := by simp [World.setCell]

set_option maxRecDepth 100000 in
set_option maxHeartbeats 2000000 in
theorem check_in (s : ByteArray) (hs : s.size < 4294967281) (w : World) :
    Calls Tryz.prog 38 #[.string s] w fun e w' => e = .returned (.int .i64 (if checkL s.data.toList then 0 else 2)) ∧ Below w.heap.size w w' := by
  refine (callsIn_wide (n := 9)).1 ?_
  refine callsIn_of_wp_marks Tryz.func38 rfl trivial ?_
  simp only [Tryz.ntmps38, List.size_toArray, List.length_cons, List.length_nil, Nat.reduceAdd, Nat.reduceSub, Array.replicate_succ, Array.replicate_zero, List.push_toArray, List.append_toArray, List.nil_append, List.cons_append]
  gi_wp2
  refine wpIn_wide.2 (wp_scope_straight ((wpIn_wide (n := 9)).1 ?_))
  gi_wp2
  refine wpIn_label ?_
  gi_wp2_with (refine ⟨trivial, ?_⟩; gi_at_call 90; refine (callsIn_wide.2 (splitSeq_in s _)).mono ?_; rintro e w' ⟨rfl, rfl⟩)
  obtain ⟨h, hh⟩ : ∃ h, w.heap.size = h := ⟨_, rfl⟩
  obtain ⟨W0, hW0⟩ : ∃ W0, (((((w.alloc (Obj.cells #[Value.int IntKind.i64 0] 3)).alloc (Obj.cells #[Value.int IntKind.i64 0] 36)).alloc (Obj.cells #[Value.string s] 9)).alloc (Obj.cells #[Value.string ⟨#[47]⟩] 9)).alloc (Obj.cells #[Value.int IntKind.i64 0] 3)) = W0 := ⟨_, rfl⟩
  have b0 : Boxed W0 h 3 (.int .i64 0) := by rw [← hW0, ← hh]; exact ((((Boxed.new w _ _).alloc _).alloc _).alloc _).alloc _
  have b1 : Boxed W0 (h + 1) 36 (.int .i64 0) := by
    rw [← hW0, ← hh]; have := Boxed.new (w.alloc (Obj.cells #[Value.int IntKind.i64 0] 3)) 36 (.int .i64 0); rw [World.size_alloc] at this; exact ((this.alloc _).alloc _).alloc _
  have b2 : Boxed W0 (h + 1 + 1) 9 (.string s) := by
    rw [← hW0, ← hh]; have := Boxed.new ((w.alloc (Obj.cells #[Value.int IntKind.i64 0] 3)).alloc (Obj.cells #[Value.int IntKind.i64 0] 36)) 9 (.string s); rw [World.size_alloc, World.size_alloc] at this; exact (this.alloc _).alloc _
  have b3 : Boxed W0 (h + 1 + 1 + 1) 9 (.string ⟨#[47]⟩) := by
    rw [← hW0, ← hh]; have := Boxed.new (((w.alloc (Obj.cells #[Value.int IntKind.i64 0] 3)).alloc (Obj.cells #[Value.int IntKind.i64 0] 36)).alloc (Obj.cells #[Value.string s] 9)) 9 (.string ⟨#[47]⟩); rw [World.size_alloc, World.size_alloc, World.size_alloc] at this; exact this.alloc _
  have b4 : Boxed W0 (h + 1 + 1 + 2) 3 (.int .i64 0) := by
    rw [← hW0, ← hh]; have := Boxed.new ((((w.alloc (Obj.cells #[Value.int IntKind.i64 0] 3)).alloc (Obj.cells #[Value.int IntKind.i64 0] 36)).alloc (Obj.cells #[Value.string s] 9)).alloc (Obj.cells #[Value.string ⟨#[47]⟩] 9)) 3 (.int .i64 0); rw [World.size_alloc, World.size_alloc, World.size_alloc, World.size_alloc] at this; exact this
  have hz : W0.heap.size = h + 5 := by rw [← hW0, ← hh]; simp
  have hB0 : Below w.heap.size w W0 := by
    rw [← hW0]; exact (((((Below.refl _ w).alloc (Nat.le_refl _) _).alloc (by simp) _).alloc (by simp; omega) _).alloc (by simp; omega) _).alloc (by simp; omega) _
  rw [hW0, hh]
  refine wpIn_range_x rfl (by omega) (gf := 183) (lb := #[.pointer (some ⟨h + 1 + 1 + 1, 0, none⟩), .pointer (some ⟨h + 1 + 1, 0, none⟩), .pointer (some ⟨h + 1 + 1 + 2, 0, none⟩)]) rfl trivial (enters_of Tryz.func183 (by kernel_rfl) rfl)
    (splitSeq1_x s 8 (by omega) (h + 1 + 1) W0 b2 b3 b4 (by omega))
    (fun k hk => rfl) (fun {A B C} h1 h2 k hk => (h2 k hk).trans (h1 k hk))
    (fun W o hl k hk => Below.heap_alloc _ _ _ (by omega)) (fun W l o' hl k hk => World.putObj_heap_other (by omega))
    (fun A B hst r o hr hc => by obtain ⟨v, rfl⟩ := hst; exact (KeepsOthers.setCell A _ _).same r o hr hc) (fun _ => rfl)
    (fun pre W => (okp pre = true ∧ Boxed W h 3 (.int .i64 pre.length) ∧ Boxed W (h + 1) 36 (.int .i64 0) ∧ h + 5 ≤ W.heap.size) ∧ Below w.heap.size w W)
    (fun c pre W => (c = .exit 0 ∧ okp pre = false ∧ Boxed W (h + 1) 36 (.int .i64 2)) ∧ Below w.heap.size w W)
    (OwnFrom.and (fun pre A B row hi hg hr => ⟨hi.1, boxed_from hi.2.1 hg hr, boxed_from hi.2.2.1 hg hr, Nat.le_trans hi.2.2.2 hg.size⟩) (ownFrom_below (Nat.le_refl _) (by omega)))
    (fun c => OwnFrom.and (fun pre A B row hi hg hr => ⟨hi.1, hi.2.1, boxed_from hi.2.2 hg hr⟩) (ownFrom_below (Nat.le_refl _) (by omega)))
    (fun pre A B hi hst => by
      obtain ⟨v, rfl⟩ := hst
      exact ⟨⟨hi.1.1, boxed_set_ne hi.1.2.1 _ (by omega), boxed_set_ne hi.1.2.2.1 _ (by omega), by rw [setCell_size]; exact hi.1.2.2.2⟩, hi.2.setCell (p := ⟨h + 1 + 1, 0, none⟩) (by simp; omega) _⟩)
    (fun c pre A B hi hst => by
      obtain ⟨v, rfl⟩ := hst
      exact ⟨⟨hi.1.1, hi.1.2.1, boxed_set_ne hi.1.2.2 _ (by omega)⟩, hi.2.setCell (p := ⟨h + 1 + 1, 0, none⟩) (by simp; omega) _⟩)
    ⟨⟨rfl, b0, b1, by omega⟩, hB0⟩
    (fun x => { tmps := #[.string s, undef, .int .i64 0, .pointer (some ⟨h, 0, none⟩), .pointer (some ⟨h + 1, 0, none⟩), .string x, .string s, .func (.func 183) #[] #[.pointer (some ⟨h + 1 + 1 + 1, 0, none⟩), .pointer (some ⟨h + 1 + 1, 0, none⟩), .pointer (some ⟨h + 1 + 1 + 2, 0, none⟩)], .string x, undef, undef, undef, undef, undef, undef, undef, undef, undef], defers := [] }) ?assign ?body ?done ?stop
  case assign =>
    intro l x W K hK
    gi_wp2
    exact hK
  case body =>
    rintro l pre x W ⟨⟨hok, hn, ht, hsz5⟩, hB⟩ hpre
    have hx : x.size ≤ s.size := pieces_size (hpre.subset (by simp))
    have hle : pre.length ≤ 6 := by simp only [okp, Bool.and_eq_true, decide_eq_true_eq] at hok; exact hok.1
    have HS := Lib.hid (okp_snoc pre x hok)
    have cn := hn.cell
    have fn := hn.frozen
    have ct := ht.cell
    have ft := ht.frozen
    have hlt : h + 1 < W.heap.size := ht.lt
    by_cases h6 : pre.length = 6
    · have HF : Hid (okp (pre ++ [x]) = false) := by rw [HS.out, h6]; exact rfl
      have hgt : (6 : Int) < pre.length + 1 := by omega
      clear HS
      gi_wp2
      refine ⟨(KeepsOthers.setCell _ _ _).trans (KeepsOthers.setCell _ _ _), ⟨rfl, HF.out, ?_⟩, ?_⟩
      · exact (boxed_set_ne ht _ (by omega)).set _
      · exact (hB.setCell (p := ⟨h, 0, none⟩) (by simp; omega) _).setCell (p := ⟨h + 1, 0, none⟩) (by simp; omega) _
    · have hle' : ((pre.length : Int) + 1 ≤ 6) := by omega
      have HP := Lib.hid (fun w => part_in x (by omega) w)
      cases hp : partL x.data.toList with
      | true =>
        have hT : okp (pre ++ [x]) = true := by rw [HS.out, hp]; simp; omega
        have HT := Lib.hid hT
        rw [hp] at HP
        clear HS hp hT
        gi_wp2_with (refine ⟨trivial, ?_⟩; gi_at_call 91; refine (CallsIn.inRound l (callsIn_wide.2 (HP.out _))).mono ?_; rintro e W2 ⟨rfl, hb2⟩)
        have hs1 := setCell_size W ⟨h, 0, none⟩ (.int .i64 (pre.length + 1))
        have hk : KeepsOthers W W2 := (KeepsOthers.setCell _ _ _).trans (keeps_below hb2)
        refine ⟨hk, ?_, ⟨HT.out, ?_, ?_, ?_⟩, ?_⟩
        · intro k hk'
          rw [hb2.block k (by rw [hs1]; omega)]
          exact Below.heap_setCell _ _ _ _ (by simp; omega)
        · have := (hn.set (.int .i64 (pre.length + 1))).lt
          have h1 := boxed_below (hn.set (.int .i64 (pre.length + 1))) hb2 this
          rw [List.length_append]; exact h1
        · exact boxed_below (boxed_set_ne ht _ (by omega)) hb2 (by rw [hs1]; omega)
        · exact Nat.le_trans hsz5 (by have := hb2.size; rw [hs1] at this; exact this)
        · exact (hB.setCell (p := ⟨h, 0, none⟩) (by simp; omega) _).trans (hb2.mono (by rw [hs1]; omega))
      | false =>
        have hF : okp (pre ++ [x]) = false := by rw [HS.out, hp]; simp
        have HF := Lib.hid hF
        rw [hp] at HP
        have hb1 : Boxed (W.setCell ⟨h, 0, none⟩ (.int .i64 (pre.length + 1))) (h + 1) 36 (.int .i64 0) := boxed_set_ne ht _ (by omega)
        have hs1 := setCell_size W ⟨h, 0, none⟩ (.int .i64 (pre.length + 1))
        clear HS hp hF
        gi_wp2_with (refine ⟨trivial, ?_⟩; gi_at_call 91; refine (CallsIn.inRound l (callsIn_wide.2 (HP.out _))).mono ?_; rintro e W2 ⟨rfl, hb2⟩; have hb3 := boxed_below hb1 hb2 (by rw [hs1]; omega); have ct3 := hb3.cell; have ft3 := hb3.frozen)
        have hk : KeepsOthers W W2 := (KeepsOthers.setCell _ _ _).trans (keeps_below hb2)
        refine ⟨hk.trans (KeepsOthers.setCell _ _ _), ⟨rfl, HF.out, hb3.set _⟩, ?_⟩
        exact ((hB.setCell (p := ⟨h, 0, none⟩) (by simp; omega) _).trans (hb2.mono (by rw [hs1]; omega))).setCell (p := ⟨h + 1, 0, none⟩) (by simp; omega) _
  case done =>
    rintro D W hD ⟨⟨hok, _, ht, _⟩, hB⟩ hK
    have HE : Hid ((if checkL s.data.toList then (0 : Int) else 2) = 0) := by rw [okp_check, hok]; exact rfl
    have ct := ht.cell
    clear hok
    gi_wp2
    refine ⟨by simp, .inl ⟨_, _, rfl, run_takeDeferred hK, ?_⟩⟩
    refine ⟨_, results_tmp rfl _ _ _, ?_, hB.trans (belowK_b (w := w) (Nat.le_refl _) W D _ _ (by omega) hK rfl rfl)⟩
    exact ret_intC HE.out.symm
  case stop =>
    rintro D c pre W hD hpre ⟨⟨rfl, hok, ht⟩, hB⟩ hK
    have HE : Hid ((if checkL s.data.toList then (0 : Int) else 2) = 2) := by
      rw [okp_check]
      cases h2 : okp (pieces s) with
      | false => exact rfl
      | true => rw [okp_prefix hpre h2] at hok; cases hok
    have ct := ht.cell
    clear hok
    gi_wp2
    refine ⟨by simp, .inl ⟨_, _, rfl, run_takeDeferred hK, ?_⟩⟩
    refine ⟨_, results_tmp rfl _ _ _, ?_, hB.trans (belowK_b (w := w) (Nat.le_refl _) W D _ _ (by omega) hK rfl rfl)⟩
    exact ret_intC HE.out.symm
end Go.Proofs.YtpnaenbpffhjfaaGreatDoor
