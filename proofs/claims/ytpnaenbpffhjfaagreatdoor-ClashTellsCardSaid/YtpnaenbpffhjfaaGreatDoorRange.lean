/- A law of my own: a range over a function whose iterator writes cells of its own between the rounds; the loop's invariant must abide these writes ('St'). No program in sight. -/
import Derived.RangeFuncFrom
set_option linter.unusedVariables false
namespace Go.Proofs.YtpnaenbpffhjfaaGreatDoor
open Go Go.RowKit

variable {F : Fence} {n : Nat} {P : Program}

/-- What is asked of an iterator (function gf bound to lb): handed a loop's yield, it comes to all of 'all' or is stopped. St: its own steps on the heap; Kp: what a round keeps for it. -/
def IterX {α : Type} (F : Fence) (n : Nat) (P : Program) (gf : Nat) (lb : Array Value) (encs : α → Array Value) (St Kp : World → World → Prop) (all : List α) (W0 : World) : Prop :=
  ∀ (l : Nat) (J Jx : List α → World → Prop), (∀ s A B, J s A → St A B → J s B) → (∀ s A B, Jx s A → St A B → Jx s B) →
    (∀ pre x W, J pre W → pre ++ [x] <+: all → YieldAt F (n - 1) P l (encs x) W fun e W' =>
      (e = .returned (.bool true) ∧ J (pre ++ [x]) W' ∧ Kp W W') ∨ (e = .returned (.bool false) ∧ Jx (pre ++ [x]) W')) →
    ∀ W, Kp W0 W → J [] W →
    CallsIn F n P gf (#[.func (.yield l) #[] #[]] ++ lb) W fun e W' => (∃ v, e = .returned v) ∧ (J all W' ∨ (∃ pre, pre <+: all ∧ Jx pre W'))

def ldone (fn : FuncId) (a : Act) (ps : Array Tmp) (assign body : Code) (D : Nat) (st : LoopState) (pe : Option Code) : Loop :=
  { state := st, pending := pe, fn, tmps := a.tmps, params := ps, assign, body, defers := D }

/-- The law. -/
theorem wpIn_range_x {α : Type} {g : Operand} {ps : Array Tmp} {assign body : Code} {Q : Exit → Act → World → Prop} {a : Act} {w : World}
    (hro : F.round = none) (h1 : 1 ≤ n) {gf : Nat} {lb : Array Value} (hg : a.eval g = .func (.func gf) #[] lb) (hFg : F.fn gf) (eg : ∀ args w, (callFunc gf args).run P w = .ok (.enter gf args) w)
    {encs : α → Array Value} {St Kp : World → World → Prop} {all : List α} (hit : IterX F (n - 1) P gf lb encs St Kp all w)
    (hKr : Kp w w) (hKt : ∀ {A B C : World}, Kp A B → Kp B C → Kp A C) (hKa : ∀ (W : World) (o : Obj), w.heap.size ≤ W.heap.size → Kp W (W.alloc o)) (hKb : ∀ (W : World) (l : Nat) (o' : Obj), w.heap.size ≤ l → Kp W (W.putObj l o'))
    (hSt : ∀ (A B : World), St A B → ∀ (r : Nat) (o : Obj), A.heap[r]? = some o → o.isCells = false → B.heap[r]? = some o) (hps : ∀ x, (encs x).size = ps.size)
    (I : List α → World → Prop) (Ix : Code → List α → World → Prop) (hI : OwnFrom w.heap.size I) (hIx : ∀ c, OwnFrom w.heap.size (Ix c))
    (hIS : ∀ s A B, I s A → St A B → I s B) (hIxS : ∀ c s A B, Ix c s A → St A B → Ix c s B) (h0 : I [] w) (a₁ : α → Act)
    (hassign : ∀ (l : Nat) (x : α) (W : World) (K : Act → World → Prop), K (a₁ x) W →
      assign.wpIn (F.inRound l) (n - 1 - 1) P (Exit.then K (fun _ _ _ => False)) { tmps := (ps.zip (encs x)).foldl (fun t (p, v) => t.setIfInBounds p v) a.tmps, defers := [] } W)
    (hbody : ∀ (l : Nat) (pre : List α) (x : α) (W : World), I pre W → pre ++ [x] <+: all → body.wpIn (F.inRound l) (n - 1 - 1) P (ownPostK Kp I Ix (pre ++ [x]) W) (a₁ x) W)
    (hdone : ∀ (D : Nat) (W : World), w.heap.size ≤ D → I all W → W.heap[D]? = some (.deferred (some [])) → Q .normal { a with defers := { target := .collected D, args := #[] } :: a.defers } W)
    (hstop : ∀ (D : Nat) (c : Code) (pre : List α) (W : World), w.heap.size ≤ D → pre <+: all → Ix c pre W → W.heap[D]? = some (.deferred (some [])) → c.wpIn F n P Q { a with defers := { target := .collected D, args := #[] } :: a.defers } W) :
    (Code.rangeFunc g ps assign body).wpIn F n P Q a w := by
  refine wpIn_rangeFunc fun fn hfn => ?_
  rw [hro]
  obtain ⟨D, hD⟩ : ∃ D, w.heap.size = D := ⟨_, rfl⟩
  obtain ⟨mk, hmk⟩ : ∃ mk, ldone fn a ps assign body D = mk := ⟨_, rfl⟩
  have hp : ∀ st pe, (mk st pe).params = ps := by intro st pe; rw [← hmk]; rfl
  have hs : ∀ st pe, (mk st pe).state = st := by intro st pe; rw [← hmk]; rfl
  obtain ⟨W1, hW1⟩ : ∃ W1, (w.alloc (.deferred (some []))).alloc (.loop (mk .ready none)) = W1 := ⟨_, rfl⟩
  have hL1 : W1.heap[D + 1]? = some (.loop (mk .ready none)) := by
    rw [← hW1, ← hD]
    have := World.alloc_heap_new (w.alloc (.deferred (some []))) (.loop (mk .ready none))
    rwa [World.size_alloc] at this
  have hK1 : W1.heap[D]? = some (.deferred (some [])) := by
    rw [← hW1, ← hD]
    exact (Below.heap_alloc _ _ _ (by simp)).trans (World.alloc_heap_new w _)
  have hI1 : I [] W1 := by rw [← hW1]; exact hI.alloc _ (hI.alloc _ h0)
  have hKp1 : Kp w W1 := by rw [← hW1]; exact hKt (hKa w _ (Nat.le_refl _)) (hKa _ _ (by simp))
  have putI : ∀ {J : List α → World → Prop}, OwnFrom w.heap.size J → ∀ {s W l o} (o' : Obj), J s W → D ≤ l → W.heap[l]? = some o → o.isCells = false → J s (W.putObj l o') := by
    intro J hJ s W l o o' hs hl hh hc
    exact hJ.putObj o' hs (by omega) hh hc
  refine ⟨D + 1, [{ target := .collected D, args := #[] }], W1, { target := .fn (.func gf) lb, args := #[.func (.yield (D + 1)) #[] #[]] }, W1, gf, #[.func (.yield (D + 1)) #[] #[]] ++ lb, W1, ?_, ?_, ?_, ?_, fun _ => h1, ?_⟩
  · rw [← hW1, ← hmk, ← hD]; exact run_enterLoop_outer _ _ _ _ _
  · simp only [resolve, hg]; simp [go_sem]
  · intro f' hf'; simp [Target.leads] at hf'; subst hf'; exact hFg
  · simp [invoke, go_sem, eg]
  · refine (hit (D + 1)
      (fun pre W => I pre W ∧ W.heap[D + 1]? = some (.loop (mk .ready none)) ∧ W.heap[D]? = some (.deferred (some [])))
      (fun pre W => ∃ c, Ix c pre W ∧ W.heap[D + 1]? = some (.loop (mk .done (some c))) ∧ W.heap[D]? = some (.deferred (some [])))
      (fun s A B h hst => ⟨hIS s A B h.1 hst, hSt A B hst _ _ h.2.1 rfl, hSt A B hst _ _ h.2.2 rfl⟩)
      (fun s A B h hst => by
        obtain ⟨c, hc, hl, hk⟩ := h
        exact ⟨c, hIxS c s A B hc hst, hSt A B hst _ _ hl rfl, hSt A B hst _ _ hk rfl⟩)
      ?_ W1 hKp1 ⟨hI1, hL1, hK1⟩).mono ?_
    · rintro pre x W ⟨hi, hl, hk⟩ hpre
      have hlt : D + 1 < W.heap.size := (Array.getElem?_eq_some_iff.1 hl).1
      have hy := run_yield (P := P) (args := encs x) hl (by rw [hp]; exact hps x)
      obtain ⟨Wb, hWb⟩ : ∃ Wb, W.putObj (D + 1) (.loop (mk .busy none)) = Wb := ⟨_, rfl⟩
      have hbusy : ({ mk .ready none with state := .busy } : Loop) = mk .busy none := by rw [← hmk]; rfl
      have hl2 : Wb.heap[D + 1]? = some (.loop (mk .busy none)) := by rw [← hWb]; exact World.putObj_heap_same hlt
      have hk2 : Wb.heap[D]? = some (.deferred (some [])) := by rw [← hWb]; exact (World.putObj_heap_other (by omega)).trans hk
      have hw2 : Kp W Wb := by rw [← hWb]; exact hKb _ _ _ (by omega)
      have hib : I pre Wb := by rw [← hWb]; exact putI hI _ hi (by omega) hl rfl
      have hbr := run_beginRound (P := P) hl (hs _ _)
      rw [hbusy, hWb] at hbr
      refine ⟨(mk .ready none).fn, _, (mk .ready none).assign, (mk .ready none).body, hy, ?_⟩
      have ef : (mk .ready none).fn = fn := by rw [← hmk]; rfl
      have ea : (mk .ready none).assign = assign := by rw [← hmk]; rfl
      have eb : (mk .ready none).body = body := by rw [← hmk]; rfl
      have et : (mk .ready none).tmps = a.tmps := by rw [← hmk]; rfl
      rw [ef, ea, eb, et, hp]
      refine roundIn_of_wpIn hfn (hassign _ x W _ ⟨_, hbr, ?_⟩)
      refine wpIn_mono (hbody _ pre x _ hib hpre) ?_
      have fin : ∀ (jump : Option Code) (W3 : World), KeepsOthers Wb W3 →
          (Instr.endRound (D + 1) jump).run P W3 = .ok (.bool jump.isNone) (W3.putObj (D + 1) (.loop (mk (if jump.isNone then .ready else .done) jump))) ∧
          W3.heap[D + 1]? = some (.loop (mk .busy none)) ∧
          (W3.putObj (D + 1) (.loop (mk (if jump.isNone then .ready else .done) jump))).heap[D + 1]? = some (.loop (mk (if jump.isNone then .ready else .done) jump)) ∧
          (W3.putObj (D + 1) (.loop (mk (if jump.isNone then .ready else .done) jump))).heap[D]? = some (.deferred (some [])) := by
        intro jump W3 hk3
        have hl3 := hk3.same _ _ hl2 rfl
        have hr := run_endRound (P := P) jump hl3
        have e3 : ({ mk .busy none with state := if jump.isNone then .ready else .done, pending := jump } : Loop) = mk (if jump.isNone then .ready else .done) jump := by rw [← hmk]; rfl
        rw [e3] at hr
        exact ⟨hr, hl3, World.putObj_heap_same (Array.getElem?_eq_some_iff.1 hl3).1, (World.putObj_heap_other (by omega)).trans (hk3.same _ _ hk2 rfl)⟩
      have fx : ∀ (c : Code) (W3 : World), KeepsOthers Wb W3 ∧ Ix c (pre ++ [x]) W3 → ∃ v w₄, (Instr.endRound (D + 1) (some c)).run P W3 = .ok v w₄ ∧
          ((Ending.returned v = .returned (.bool true) ∧ (I (pre ++ [x]) w₄ ∧ w₄.heap[D + 1]? = some (.loop (mk .ready none)) ∧ w₄.heap[D]? = some (.deferred (some []))) ∧ Kp W w₄) ∨
           (Ending.returned v = .returned (.bool false) ∧ ∃ c, Ix c (pre ++ [x]) w₄ ∧ w₄.heap[D + 1]? = some (.loop (mk .done (some c))) ∧ w₄.heap[D]? = some (.deferred (some [])))) := by
        rintro c W3 ⟨hk3, hi3⟩
        obtain ⟨hr, hl3, hl4, hk4⟩ := fin (some c) W3 hk3
        exact ⟨_, _, hr, .inr ⟨rfl, c, putI (hIx c) _ hi3 (by omega) hl3 rfl, hl4, hk4⟩⟩
      rintro e a3 W3 hp
      cases e with
      | normal =>
        obtain ⟨hk3, hkp3, hi3⟩ := hp
        obtain ⟨hr, hl3, hl4, hk4⟩ := fin none W3 hk3
        exact ⟨_, _, hr, .inl ⟨rfl, ⟨putI hI _ hi3 (by omega) hl3 rfl, hl4, hk4⟩, hKt (hKt hw2 hkp3) (hKb _ _ _ (by omega))⟩⟩
      | ret => exact fx _ _ hp
      | exit id => exact fx _ _ hp
      | goto t => exact fx _ _ hp
      | panic ch => exact hp.elim
      | outgrown => exact hp.elim
    · rintro e W2 ⟨⟨v, rfl⟩, (⟨hi, hl, hk⟩ | ⟨pre, hpre, c, hi, hl, hk⟩)⟩
      · have he := run_endLoop (P := P) hl (by rw [hs]; simp)
        rw [show (mk .ready none).pending = none by rw [← hmk]; rfl] at he
        exact ⟨none, _, he, hdone D _ (by omega) (putI hI _ hi (by omega) hl rfl) ((World.putObj_heap_other (by omega)).trans hk)⟩
      · have he := run_endLoop (P := P) hl (by rw [hs]; simp)
        rw [show (mk .done (some c)).pending = some c by rw [← hmk]; rfl] at he
        exact ⟨some c, _, he, hstop D c pre _ (by omega) hpre (putI (hIx c) _ hi (by omega) hl rfl) ((World.putObj_heap_other (by omega)).trans hk)⟩

end Go.Proofs.YtpnaenbpffhjfaaGreatDoor
