-- Made by a program of mine out of Lean's print of the loaded program; Lean checks it.
import Derived.Test.YtgijjkdcidhmdaaDoorQ0
import Derived.Test.YtgijjkdcidhmdaaDoorQ1
import Derived.Test.YtgijjkdcidhmdaaDoorQ2
import Derived.Test.YtgijjkdcidhmdaaDoorQ3
import Derived.Test.YtgijjkdcidhmdaaDoorPathGiven
namespace Go.Proofs.YtgijjkdcidhmdaaDoor.Q
open Go.RowKit Go.Proofs.YtgijjkdcidhmdaaDoorW.PrintWords Go.Proofs.YtgijjkdcidhmdaaDoorW.PrintLast Go.Proofs.YtgijjkdcidhmdaaDoorW.PrintMore
attribute [local go_sem] max2_int min2_int max_two min_two max_three min_three max_four min_four   -- for this text's walks alone
set_option linter.unusedVariables false
set_option linter.unusedSimpArgs false

/-! ### tributarylaw03_PathOrder: function 6 -/
mutual
def tributarylaw03_PathOrder.j0 : Nat → ByteArray → ByteArray → ByteArray → Bool → Bool → Bool → Option (Bool)
  | 0, _, _, _, _, _, _ => none
  | k + 1, x0, x1, x2, x7, x8, x58 => if x58 = true then (some false) else (if x8 = true then ((path_Less.f x1 x2).bind fun t175 => (if t175 = true then ((path_Under.f k x0 x2).bind fun t176 => (if t176 = true then ((path_Check.f x1).bind fun t177 => (tributarylaw03_PathOrder.j1 k x0 x1 x7 x8 (t177 == 0))) else (tributarylaw03_PathOrder.j1 k x0 x1 x7 x8 false))) else (tributarylaw03_PathOrder.j1 k x0 x1 x7 x8 false))) else (tributarylaw03_PathOrder.j1 k x0 x1 x7 x8 false))
def tributarylaw03_PathOrder.j1 : Nat → ByteArray → ByteArray → Bool → Bool → Bool → Option (Bool)
  | 0, _, _, _, _, _ => none
  | k + 1, x0, x1, x7, x8, x10 => if x7 = true then (if x10 = true then ((path_Under.f k x0 x1).bind fun t178 => (if t178 = true then ((path_Under.f k x0 x1).bind fun t179 => (if t179 = true then (if x8 = true then ((path_Near.f k x0 x1).bind fun t180 => ((path_Near.f k x1 x0).bind fun t181 => (some (t180 == t181)))) else (some false)) else ((path_Near.f k x0 x1).bind fun t182 => ((path_Near.f k x1 x0).bind fun t183 => (some (t182 == t183)))))) else (some false))) else ((path_Under.f k x0 x1).bind fun t184 => (if t184 = true then (if x8 = true then ((path_Near.f k x0 x1).bind fun t185 => ((path_Near.f k x1 x0).bind fun t186 => (some (t185 == t186)))) else (some false)) else ((path_Near.f k x0 x1).bind fun t187 => ((path_Near.f k x1 x0).bind fun t188 => (some (t187 == t188))))))) else (some false)
end
def tributarylaw03_PathOrder.f (k : Nat) (a0 : ByteArray) (a1 : ByteArray) (a2 : ByteArray) : Option (Bool) := (tributarylaw03_PathKnown.f k).bind fun t164 => ((tributarylaw03_long.f k (([a0, a1, a2] : List ByteArray))).bind fun t168 => (if t168 = true then (some t164) else ((path_Less.f a0 a1).bind fun t169 => ((path_Less.f a1 a0).bind fun t170 => (if t169 = true then (if t170 = true then (tributarylaw03_PathOrder.j0 k a0 a1 a2 t164 t169 true) else (if ((a0.toList == a1.toList) != false) = true then (tributarylaw03_PathOrder.j0 k a0 a1 a2 t164 t169 true) else ((path_Less.f a0 a0).bind fun t171 => (if t171 = true then (tributarylaw03_PathOrder.j0 k a0 a1 a2 t164 t169 true) else ((path_Less.f a1 a2).bind fun t172 => (if t172 = true then ((path_Less.f a0 a2).bind fun t173 => (tributarylaw03_PathOrder.j0 k a0 a1 a2 t164 t169 (!t173))) else (tributarylaw03_PathOrder.j0 k a0 a1 a2 t164 t169 false))))))) else (if ((a0.toList == a1.toList) != (!t170)) = true then (tributarylaw03_PathOrder.j0 k a0 a1 a2 t164 t169 true) else ((path_Less.f a0 a0).bind fun t174 => (if t174 = true then (tributarylaw03_PathOrder.j0 k a0 a1 a2 t164 t169 true) else (tributarylaw03_PathOrder.j0 k a0 a1 a2 t164 t169 false)))))))))
theorem tributarylaw03_PathOrder.mono_l : ∀ k, (∀ y0 y1 y2 y3 y4 y5, LeO (tributarylaw03_PathOrder.j0 k y0 y1 y2 y3 y4 y5) (tributarylaw03_PathOrder.j0 (k + 1) y0 y1 y2 y3 y4 y5)) ∧ (∀ y0 y1 y2 y3 y4, LeO (tributarylaw03_PathOrder.j1 k y0 y1 y2 y3 y4) (tributarylaw03_PathOrder.j1 (k + 1) y0 y1 y2 y3 y4))
  | 0 => ⟨fun _ _ _ _ _ _ r h => by simp [tributarylaw03_PathOrder.j0] at h, fun _ _ _ _ _ r h => by simp [tributarylaw03_PathOrder.j1] at h⟩
  | k + 1 => by
    obtain ⟨ih0, ih1⟩ := tributarylaw03_PathOrder.mono_l k
    refine ⟨?_, ?_⟩
    · intro y0 y1 y2 y3 y4 y5
      unfold tributarylaw03_PathOrder.j0
      repeat' first
      | (with_reducible exact ih0 _ _ _ _ _ _)
      | (with_reducible exact ih1 _ _ _ _ _)
      | (with_reducible exact path_Near.mono _ _ _)
      | (with_reducible exact path_Under.mono _ _ _)
      | (with_reducible exact tributarylaw03_PathKnown.mono _)
      | (with_reducible exact tributarylaw03_long.mono _ _)
      | (with_reducible exact LeO.refl _)
      | (with_reducible exact LeO.none _)
      | (with_reducible refine LeO.ite ?_ ?_)
      | (with_reducible refine LeO.bind ?_ (fun _ => ?_))
      | exact ih0 _ _ _ _ _ _
      | exact ih1 _ _ _ _ _
      | exact path_Near.mono _ _ _
      | exact path_Under.mono _ _ _
      | exact tributarylaw03_PathKnown.mono _
      | exact tributarylaw03_long.mono _ _
      | exact LeO.none _
      | refine LeO.ite ?_ ?_
      | refine LeO.bind ?_ (fun _ => ?_)
    · intro y0 y1 y2 y3 y4
      unfold tributarylaw03_PathOrder.j1
      repeat' first
      | (with_reducible exact ih0 _ _ _ _ _ _)
      | (with_reducible exact ih1 _ _ _ _ _)
      | (with_reducible exact path_Near.mono _ _ _)
      | (with_reducible exact path_Under.mono _ _ _)
      | (with_reducible exact tributarylaw03_PathKnown.mono _)
      | (with_reducible exact tributarylaw03_long.mono _ _)
      | (with_reducible exact LeO.refl _)
      | (with_reducible exact LeO.none _)
      | (with_reducible refine LeO.ite ?_ ?_)
      | (with_reducible refine LeO.bind ?_ (fun _ => ?_))
      | exact ih0 _ _ _ _ _ _
      | exact ih1 _ _ _ _ _
      | exact path_Near.mono _ _ _
      | exact path_Under.mono _ _ _
      | exact tributarylaw03_PathKnown.mono _
      | exact tributarylaw03_long.mono _ _
      | exact LeO.none _
      | refine LeO.ite ?_ ?_
      | refine LeO.bind ?_ (fun _ => ?_)
theorem tributarylaw03_PathOrder.mono : ∀ a0 a1 a2 k, LeO (tributarylaw03_PathOrder.f k a0 a1 a2) (tributarylaw03_PathOrder.f (k + 1) a0 a1 a2) := by
  intro a0 a1 a2 k
  obtain ⟨ih0, ih1⟩ := tributarylaw03_PathOrder.mono_l k
  unfold tributarylaw03_PathOrder.f
  repeat' first
      | (with_reducible exact ih0 _ _ _ _ _ _)
      | (with_reducible exact ih1 _ _ _ _ _)
      | (with_reducible exact path_Near.mono _ _ _)
      | (with_reducible exact path_Under.mono _ _ _)
      | (with_reducible exact tributarylaw03_PathKnown.mono _)
      | (with_reducible exact tributarylaw03_long.mono _ _)
      | (with_reducible exact LeO.refl _)
      | (with_reducible exact LeO.none _)
      | (with_reducible refine LeO.ite ?_ ?_)
      | (with_reducible refine LeO.bind ?_ (fun _ => ?_))
      | exact ih0 _ _ _ _ _ _
      | exact ih1 _ _ _ _ _
      | exact path_Near.mono _ _ _
      | exact path_Under.mono _ _ _
      | exact tributarylaw03_PathKnown.mono _
      | exact tributarylaw03_long.mono _ _
      | exact LeO.none _
      | refine LeO.ite ?_ ?_
      | refine LeO.bind ?_ (fun _ => ?_)
set_option maxHeartbeats 8000000 in
set_option maxRecDepth 100000 in
theorem tributarylaw03_PathOrder.calls (k : Nat) (a0 : ByteArray) (a1 : ByteArray) (a2 : ByteArray) (r : Bool) (w : World) (h : tributarylaw03_PathOrder.f k a0 a1 a2 = some r) :
    Calls Tryd.prog 6 #[.string a0, .string a1, .string a2] w fun e w' => e = .returned (.bool r) ∧ Below w.heap.size w w' := by
  have HB := Aside0.mk (Below.refl w.heap.size w)
  have H : ((tributarylaw03_PathKnown.f k).bind fun t164 => ((tributarylaw03_long.f k (([a0, a1, a2] : List ByteArray))).bind fun t168 => (if t168 = true then (some t164) else ((path_Less.f a0 a1).bind fun t169 => ((path_Less.f a1 a0).bind fun t170 => (if t169 = true then (if t170 = true then (tributarylaw03_PathOrder.j0 k a0 a1 a2 t164 t169 true) else (if ((a0.toList == a1.toList) != false) = true then (tributarylaw03_PathOrder.j0 k a0 a1 a2 t164 t169 true) else ((path_Less.f a0 a0).bind fun t171 => (if t171 = true then (tributarylaw03_PathOrder.j0 k a0 a1 a2 t164 t169 true) else ((path_Less.f a1 a2).bind fun t172 => (if t172 = true then ((path_Less.f a0 a2).bind fun t173 => (tributarylaw03_PathOrder.j0 k a0 a1 a2 t164 t169 (!t173))) else (tributarylaw03_PathOrder.j0 k a0 a1 a2 t164 t169 false))))))) else (if ((a0.toList == a1.toList) != (!t170)) = true then (tributarylaw03_PathOrder.j0 k a0 a1 a2 t164 t169 true) else ((path_Less.f a0 a0).bind fun t174 => (if t174 = true then (tributarylaw03_PathOrder.j0 k a0 a1 a2 t164 t169 true) else (tributarylaw03_PathOrder.j0 k a0 a1 a2 t164 t169 false)))))))))) = some r := h
  clear h
  replace H := Option.bind_eq_some_iff.mp H
  obtain ⟨t164, A40, H⟩ := H
  replace H : ((tributarylaw03_long.f k (([a0, a1, a2] : List ByteArray))).bind fun t168 => (if t168 = true then (some t164) else ((path_Less.f a0 a1).bind fun t169 => ((path_Less.f a1 a0).bind fun t170 => (if t169 = true then (if t170 = true then (tributarylaw03_PathOrder.j0 k a0 a1 a2 t164 t169 true) else (if ((a0.toList == a1.toList) != false) = true then (tributarylaw03_PathOrder.j0 k a0 a1 a2 t164 t169 true) else ((path_Less.f a0 a0).bind fun t171 => (if t171 = true then (tributarylaw03_PathOrder.j0 k a0 a1 a2 t164 t169 true) else ((path_Less.f a1 a2).bind fun t172 => (if t172 = true then ((path_Less.f a0 a2).bind fun t173 => (tributarylaw03_PathOrder.j0 k a0 a1 a2 t164 t169 (!t173))) else (tributarylaw03_PathOrder.j0 k a0 a1 a2 t164 t169 false))))))) else (if ((a0.toList == a1.toList) != (!t170)) = true then (tributarylaw03_PathOrder.j0 k a0 a1 a2 t164 t169 true) else ((path_Less.f a0 a0).bind fun t174 => (if t174 = true then (tributarylaw03_PathOrder.j0 k a0 a1 a2 t164 t169 true) else (tributarylaw03_PathOrder.j0 k a0 a1 a2 t164 t169 false))))))))) = some r := H
  have A4 := Aside0.mk A40
  clear A40
  obtain ⟨y165, hy165⟩ : ∃ y_ : List ByteArray, y_ = (([a0, a1, a2] : List ByteArray)) := ⟨_, rfl⟩
  replace H : ((tributarylaw03_long.f k y165).bind fun t168 => (if t168 = true then (some t164) else ((path_Less.f a0 a1).bind fun t169 => ((path_Less.f a1 a0).bind fun t170 => (if t169 = true then (if t170 = true then (tributarylaw03_PathOrder.j0 k a0 a1 a2 t164 t169 true) else (if ((a0.toList == a1.toList) != false) = true then (tributarylaw03_PathOrder.j0 k a0 a1 a2 t164 t169 true) else ((path_Less.f a0 a0).bind fun t171 => (if t171 = true then (tributarylaw03_PathOrder.j0 k a0 a1 a2 t164 t169 true) else ((path_Less.f a1 a2).bind fun t172 => (if t172 = true then ((path_Less.f a0 a2).bind fun t173 => (tributarylaw03_PathOrder.j0 k a0 a1 a2 t164 t169 (!t173))) else (tributarylaw03_PathOrder.j0 k a0 a1 a2 t164 t169 false))))))) else (if ((a0.toList == a1.toList) != (!t170)) = true then (tributarylaw03_PathOrder.j0 k a0 a1 a2 t164 t169 true) else ((path_Less.f a0 a0).bind fun t174 => (if t174 = true then (tributarylaw03_PathOrder.j0 k a0 a1 a2 t164 t169 true) else (tributarylaw03_PathOrder.j0 k a0 a1 a2 t164 t169 false))))))))) = some r := by first | (rw [hy165]; with_reducible exact H) | (have H2_ := (Option.bind_some _ _).symm.trans H; rw [hy165]; with_reducible exact H2_) | (have H2_ := (Option.bind_some _ _).symm.trans H; with_reducible exact H2_) | with_reducible exact H | (rw [hy165]; exact H) | exact H
  have Ny165 := Aside0.mk hy165
  clear hy165
  replace H := Option.bind_eq_some_iff.mp H
  obtain ⟨t168, A50, H⟩ := H
  replace H : (if t168 = true then (some t164) else ((path_Less.f a0 a1).bind fun t169 => ((path_Less.f a1 a0).bind fun t170 => (if t169 = true then (if t170 = true then (tributarylaw03_PathOrder.j0 k a0 a1 a2 t164 t169 true) else (if ((a0.toList == a1.toList) != false) = true then (tributarylaw03_PathOrder.j0 k a0 a1 a2 t164 t169 true) else ((path_Less.f a0 a0).bind fun t171 => (if t171 = true then (tributarylaw03_PathOrder.j0 k a0 a1 a2 t164 t169 true) else ((path_Less.f a1 a2).bind fun t172 => (if t172 = true then ((path_Less.f a0 a2).bind fun t173 => (tributarylaw03_PathOrder.j0 k a0 a1 a2 t164 t169 (!t173))) else (tributarylaw03_PathOrder.j0 k a0 a1 a2 t164 t169 false))))))) else (if ((a0.toList == a1.toList) != (!t170)) = true then (tributarylaw03_PathOrder.j0 k a0 a1 a2 t164 t169 true) else ((path_Less.f a0 a0).bind fun t174 => (if t174 = true then (tributarylaw03_PathOrder.j0 k a0 a1 a2 t164 t169 true) else (tributarylaw03_PathOrder.j0 k a0 a1 a2 t164 t169 false)))))))) = some r := H
  have A5 := Aside0.mk A50
  clear A50
  by_cases c6 : t168 = true
  · subst c6
    have H1 : (some t164) = some r := by rw [if_pos rfl] at H; exact H
    clear H
    have H := H1
    clear H1
    obtain rfl := Option.some.inj H
    go_enter Tryd.func6, Tryd.ntmps6
    go_wp2_with (first | ((with_reducible refine gate_callee (f := 4) rfl ?_); refine goesL_ (some 11) rfl rfl Tryd.func4 (by kernel_rfl) rfl #[] rfl (by (try simp only [List.map_toArray, List.map_cons, List.map_nil]); first | done | rfl | (simp only [List.length_drop, List.length_take]; rfl)) ?_; (with_reducible refine (tributarylaw03_PathKnown.calls k  t164 _ A4.out).mono ?_); rintro e w7 ⟨rfl, hb⟩; refine ⟨_, rfl, ?_⟩; have n0_ := Aside0.mk (below_step (by repeat (first | (with_reducible first | exact HB.out | apply below_alloc | apply pw_below_drewN | apply below_drew1) | exact HB.out)) hb); clear HB; have HB := n0_; clear n0_; (try clear hb); (try clear hb2); (try clear hk); (try clear hi)) | ((with_reducible refine gate_dst (N := 15) rfl ?_); refine Kd.R_lit Kd.string _ 9 ?hg (N := 15) ?hd (xs := ([a0, a1, a2] : List ByteArray)) (inner := [.string a0, .string a1, .string a2]) (ok := fun _ => True) (okp := fun _ => True) ?hr ?hp (fun _ hk => hk) trivial (Below.refl _ _) (Nat.le_refl _) (by simp) ?_; (case hd => rfl); (case hg => rfl); (case hr => first | (go_simp; done) | (go_simp; rfl)); (case hp => exact (Reps.one (show Kd.M Kd.string _ _ _ a0 [.string a0] from rfl) (Reps.one (show Kd.M Kd.string _ _ _ a1 [.string a1] from rfl) (Reps.one (show Kd.M Kd.string _ _ _ a2 [.string a2] from rfl) (Reps.none _ _))))); intro v166 w8 ho9 hb hg_ hnew_; clear hg_ hnew_; (first | rw [← Ny165.out] at ho9 | (simp only [Int.reduceToNat] at ho9; rw [← Ny165.out] at ho9)); have n0_ := Aside0.mk (Kd.R_lower ho9 (below_size (by repeat (first | (with_reducible first | exact HB.out | apply below_alloc | apply pw_below_drewN | apply below_drew1) | exact HB.out)))); have n1_ := Aside0.mk (below_step (by repeat (first | (with_reducible first | exact HB.out | apply below_alloc | apply pw_below_drewN | apply below_drew1) | exact HB.out)) hb); clear HB; have HO167 := n0_; have HB := n1_; clear n0_ n1_; clear hb ho9; obtain ⟨Ao10, co10, eo10⟩ := Kd.R_slice HO167.out; subst eo10) | ((with_reducible refine gate_callee (f := 9) rfl ?_); refine goesL_ (some 16) rfl rfl Tryd.func9 (by kernel_rfl) rfl #[.slice Ao10 y165.length co10] rfl (by (try simp only [List.map_toArray, List.map_cons, List.map_nil]); first | done | rfl | (simp only [List.length_drop, List.length_take]; rfl)) ?_; (with_reducible refine (tributarylaw03_long.calls k _ _ y165 true _ ?side1 ?side2 A5.out).mono ?_); (case side1 => repeat (first | exact (Kd.R_reads' HO167.out).2.2 | (with_reducible refine Kd.C_alloc ?_ _) | (with_reducible refine Kd.C_drewN ?_ _) | (with_reducible refine Kd.C_drew ?_))); (case side2 => exact (Kd.R_reads' HO167.out).2.1); rintro e w' ⟨rfl, ⟨nd, rfl⟩⟩; refine ⟨_, rfl, ?_⟩))
    go_ret
    exact ⟨by first | rfl | (simp [errW_none, errW_some, pp_bne]; done) | (simp [errW_none, errW_some] <;> rfl) | (simp [*, errW_none, errW_some] <;> rfl), by repeat (first | (with_reducible first | exact HB.out | apply below_alloc | apply pw_below_drewN | apply below_drew1) | exact HB.out)⟩
  · replace c6 := Bool.eq_false_iff.mpr c6
    subst c6
    have H1 : ((path_Less.f a0 a1).bind fun t169 => ((path_Less.f a1 a0).bind fun t170 => (if t169 = true then (if t170 = true then (tributarylaw03_PathOrder.j0 k a0 a1 a2 t164 t169 true) else (if ((a0.toList == a1.toList) != false) = true then (tributarylaw03_PathOrder.j0 k a0 a1 a2 t164 t169 true) else ((path_Less.f a0 a0).bind fun t171 => (if t171 = true then (tributarylaw03_PathOrder.j0 k a0 a1 a2 t164 t169 true) else ((path_Less.f a1 a2).bind fun t172 => (if t172 = true then ((path_Less.f a0 a2).bind fun t173 => (tributarylaw03_PathOrder.j0 k a0 a1 a2 t164 t169 (!t173))) else (tributarylaw03_PathOrder.j0 k a0 a1 a2 t164 t169 false))))))) else (if ((a0.toList == a1.toList) != (!t170)) = true then (tributarylaw03_PathOrder.j0 k a0 a1 a2 t164 t169 true) else ((path_Less.f a0 a0).bind fun t174 => (if t174 = true then (tributarylaw03_PathOrder.j0 k a0 a1 a2 t164 t169 true) else (tributarylaw03_PathOrder.j0 k a0 a1 a2 t164 t169 false))))))) = some r := by rw [if_neg (show ¬ (false = true) by decide)] at H; exact H
    clear H
    have H := H1
    clear H1
    replace H := Option.bind_eq_some_iff.mp H
    obtain ⟨t169, A110, H⟩ := H
    replace H : ((path_Less.f a1 a0).bind fun t170 => (if t169 = true then (if t170 = true then (tributarylaw03_PathOrder.j0 k a0 a1 a2 t164 t169 true) else (if ((a0.toList == a1.toList) != false) = true then (tributarylaw03_PathOrder.j0 k a0 a1 a2 t164 t169 true) else ((path_Less.f a0 a0).bind fun t171 => (if t171 = true then (tributarylaw03_PathOrder.j0 k a0 a1 a2 t164 t169 true) else ((path_Less.f a1 a2).bind fun t172 => (if t172 = true then ((path_Less.f a0 a2).bind fun t173 => (tributarylaw03_PathOrder.j0 k a0 a1 a2 t164 t169 (!t173))) else (tributarylaw03_PathOrder.j0 k a0 a1 a2 t164 t169 false))))))) else (if ((a0.toList == a1.toList) != (!t170)) = true then (tributarylaw03_PathOrder.j0 k a0 a1 a2 t164 t169 true) else ((path_Less.f a0 a0).bind fun t174 => (if t174 = true then (tributarylaw03_PathOrder.j0 k a0 a1 a2 t164 t169 true) else (tributarylaw03_PathOrder.j0 k a0 a1 a2 t164 t169 false)))))) = some r := H
    have A11 := Aside0.mk A110
    clear A110
    replace H := Option.bind_eq_some_iff.mp H
    obtain ⟨t170, A120, H⟩ := H
    replace H : (if t169 = true then (if t170 = true then (tributarylaw03_PathOrder.j0 k a0 a1 a2 t164 t169 true) else (if ((a0.toList == a1.toList) != false) = true then (tributarylaw03_PathOrder.j0 k a0 a1 a2 t164 t169 true) else ((path_Less.f a0 a0).bind fun t171 => (if t171 = true then (tributarylaw03_PathOrder.j0 k a0 a1 a2 t164 t169 true) else ((path_Less.f a1 a2).bind fun t172 => (if t172 = true then ((path_Less.f a0 a2).bind fun t173 => (tributarylaw03_PathOrder.j0 k a0 a1 a2 t164 t169 (!t173))) else (tributarylaw03_PathOrder.j0 k a0 a1 a2 t164 t169 false))))))) else (if ((a0.toList == a1.toList) != (!t170)) = true then (tributarylaw03_PathOrder.j0 k a0 a1 a2 t164 t169 true) else ((path_Less.f a0 a0).bind fun t174 => (if t174 = true then (tributarylaw03_PathOrder.j0 k a0 a1 a2 t164 t169 true) else (tributarylaw03_PathOrder.j0 k a0 a1 a2 t164 t169 false))))) = some r := H
    have A12 := Aside0.mk A120
    clear A120
    have HC13 := Aside0.mk H
    clear H
    go_enter Tryd.func6, Tryd.ntmps6
    go_upto_region 5 with (first | ((with_reducible refine gate_callee (f := 4) rfl ?_); refine goesL_ (some 11) rfl rfl Tryd.func4 (by kernel_rfl) rfl #[] rfl (by (try simp only [List.map_toArray, List.map_cons, List.map_nil]); first | done | rfl | (simp only [List.length_drop, List.length_take]; rfl)) ?_; (with_reducible refine (tributarylaw03_PathKnown.calls k  t164 _ A4.out).mono ?_); rintro e w14 ⟨rfl, hb⟩; refine ⟨_, rfl, ?_⟩; have n0_ := Aside0.mk (below_step (by repeat (first | (with_reducible first | exact HB.out | apply below_alloc | apply pw_below_drewN | apply below_drew1) | exact HB.out)) hb); clear HB; have HB := n0_; clear n0_; (try clear hb); (try clear hb2); (try clear hk); (try clear hi)) | ((with_reducible refine gate_dst (N := 15) rfl ?_); refine Kd.R_lit Kd.string _ 9 ?hg (N := 15) ?hd (xs := ([a0, a1, a2] : List ByteArray)) (inner := [.string a0, .string a1, .string a2]) (ok := fun _ => True) (okp := fun _ => True) ?hr ?hp (fun _ hk => hk) trivial (Below.refl _ _) (Nat.le_refl _) (by simp) ?_; (case hd => rfl); (case hg => rfl); (case hr => first | (go_simp; done) | (go_simp; rfl)); (case hp => exact (Reps.one (show Kd.M Kd.string _ _ _ a0 [.string a0] from rfl) (Reps.one (show Kd.M Kd.string _ _ _ a1 [.string a1] from rfl) (Reps.one (show Kd.M Kd.string _ _ _ a2 [.string a2] from rfl) (Reps.none _ _))))); intro v166 w15 ho16 hb hg_ hnew_; clear hg_ hnew_; (first | rw [← Ny165.out] at ho16 | (simp only [Int.reduceToNat] at ho16; rw [← Ny165.out] at ho16)); have n0_ := Aside0.mk (Kd.R_lower ho16 (below_size (by repeat (first | (with_reducible first | exact HB.out | apply below_alloc | apply pw_below_drewN | apply below_drew1) | exact HB.out)))); have n1_ := Aside0.mk (below_step (by repeat (first | (with_reducible first | exact HB.out | apply below_alloc | apply pw_below_drewN | apply below_drew1) | exact HB.out)) hb); clear HB; have HO167 := n0_; have HB := n1_; clear n0_ n1_; clear hb ho16; obtain ⟨Ao17, co17, eo17⟩ := Kd.R_slice HO167.out; subst eo17) | ((with_reducible refine gate_callee (f := 9) rfl ?_); refine goesL_ (some 16) rfl rfl Tryd.func9 (by kernel_rfl) rfl #[.slice Ao17 y165.length co17] rfl (by (try simp only [List.map_toArray, List.map_cons, List.map_nil]); first | done | rfl | (simp only [List.length_drop, List.length_take]; rfl)) ?_; (with_reducible refine (tributarylaw03_long.calls k _ _ y165 false _ ?side1 ?side2 A5.out).mono ?_); (case side1 => repeat (first | exact (Kd.R_reads' HO167.out).2.2 | (with_reducible refine Kd.C_alloc ?_ _) | (with_reducible refine Kd.C_drewN ?_ _) | (with_reducible refine Kd.C_drew ?_))); (case side2 => exact (Kd.R_reads' HO167.out).2.1); rintro e w' ⟨rfl, ⟨nd, rfl⟩⟩; refine ⟨_, rfl, ?_⟩) | ((with_reducible refine gate_callee (f := 24) rfl ?_); refine goesL_ (some 20) rfl rfl Tryd.func24 (by kernel_rfl) rfl #[.string a0, .string a1] rfl (by (try simp only [List.map_toArray, List.map_cons, List.map_nil]); first | done | rfl | (simp only [List.length_drop, List.length_take]; rfl)) ?_; (with_reducible refine (path_Less.calls a0 a1 t169 _ A11.out).mono ?_); rintro e w18 ⟨rfl, hb⟩; refine ⟨_, rfl, ?_⟩; have n0_ := Aside0.mk (Kd.R_below (by (with_reducible repeat (first | apply Kd.R_alloc | apply Kd.R_drewN | apply Kd.R_drew)); exact HO167.out) hb); have n1_ := Aside0.mk (below_step (by repeat (first | (with_reducible first | exact HB.out | apply below_alloc | apply pw_below_drewN | apply below_drew1) | exact HB.out)) hb); clear HO167; clear HB; have HO167 := n0_; have HB := n1_; clear n0_ n1_; (try clear hb); (try clear hb2); (try clear hk); (try clear hi)) | ((with_reducible refine gate_callee (f := 24) rfl ?_); refine goesL_ (some 23) rfl rfl Tryd.func24 (by kernel_rfl) rfl #[.string a1, .string a0] rfl (by (try simp only [List.map_toArray, List.map_cons, List.map_nil]); first | done | rfl | (simp only [List.length_drop, List.length_take]; rfl)) ?_; (with_reducible refine (path_Less.calls a1 a0 t170 _ A12.out).mono ?_); rintro e w19 ⟨rfl, hb⟩; refine ⟨_, rfl, ?_⟩; have n0_ := Aside0.mk (Kd.R_below (by (with_reducible repeat (first | apply Kd.R_alloc | apply Kd.R_drewN | apply Kd.R_drew)); exact HO167.out) hb); have n1_ := Aside0.mk (below_step (by repeat (first | (with_reducible first | exact HB.out | apply below_alloc | apply pw_below_drewN | apply below_drew1) | exact HB.out)) hb); clear HO167; clear HB; have HO167 := n0_; have HB := n1_; clear n0_ n1_; (try clear hb); (try clear hb2); (try clear hk); (try clear hi)))
    (try simp only [Act.put, List.setIfInBounds_toArray, List.set_cons_zero, List.set_cons_succ])
    go_cut [58] (fun v58 wc => ∃ (kq : Nat) (x58_12 : Bool), v58 = .bool x58_12 ∧ Aside0 (tributarylaw03_PathOrder.j0 kq a0 a1 a2 t164 t169 x58_12 = some r) ∧ Aside0 (kq ≤ k) ∧ Aside0 (Below w.heap.size w wc))
    case first =>
      have H := HC13.out
      clear HC13
      by_cases c20 : t169 = true
      · subst c20
        have H1 : (if t170 = true then (tributarylaw03_PathOrder.j0 k a0 a1 a2 t164 true true) else (if ((a0.toList == a1.toList) != false) = true then (tributarylaw03_PathOrder.j0 k a0 a1 a2 t164 true true) else ((path_Less.f a0 a0).bind fun t171 => (if t171 = true then (tributarylaw03_PathOrder.j0 k a0 a1 a2 t164 true true) else ((path_Less.f a1 a2).bind fun t172 => (if t172 = true then ((path_Less.f a0 a2).bind fun t173 => (tributarylaw03_PathOrder.j0 k a0 a1 a2 t164 true (!t173))) else (tributarylaw03_PathOrder.j0 k a0 a1 a2 t164 true false))))))) = some r := by rw [if_pos rfl] at H; exact H
        clear H
        have H := H1
        clear H1
        by_cases c21 : t170 = true
        · subst c21
          have H1 : (tributarylaw03_PathOrder.j0 k a0 a1 a2 t164 true true) = some r := by rw [if_pos rfl] at H; exact H
          clear H
          have H := H1
          clear H1
          have H' := Aside0.mk H
          clear H
          go_wp2
          go_meet
          case rel => exact ⟨_, (true), (by first | rfl | (simp; done) | (simp [*]; done)), H', ⟨by first | omega | exact Nat.le_refl _⟩, ⟨by repeat (first | (with_reducible first | exact HB.out | apply below_alloc | apply pw_below_drewN | apply below_drew1) | exact HB.out)⟩⟩
        · replace c21 := Bool.eq_false_iff.mpr c21
          subst c21
          have H1 : (if ((a0.toList == a1.toList) != false) = true then (tributarylaw03_PathOrder.j0 k a0 a1 a2 t164 true true) else ((path_Less.f a0 a0).bind fun t171 => (if t171 = true then (tributarylaw03_PathOrder.j0 k a0 a1 a2 t164 true true) else ((path_Less.f a1 a2).bind fun t172 => (if t172 = true then ((path_Less.f a0 a2).bind fun t173 => (tributarylaw03_PathOrder.j0 k a0 a1 a2 t164 true (!t173))) else (tributarylaw03_PathOrder.j0 k a0 a1 a2 t164 true false)))))) = some r := by rw [if_neg (show ¬ (false = true) by decide)] at H; exact H
          clear H
          have H := H1
          clear H1
          by_cases c22 : ((a0.toList == a1.toList) != false) = true
          · rw [if_pos c22] at H
            have c22b0 : ((a0.toList == a1.toList) != false) = true := c22
            (try (have c22b1 : decide ((a0.toList == a1.toList) = false) = false := by simpa using c22))
            (try (have c22b2 : ((a0.toList == a1.toList) == false) = false := by simpa using c22))
            (try (have c22b3 : ¬ ((a0.toList == a1.toList) = false) := by simpa using c22))
            clear c22
            (first | rw [c22b0] | (simp only [i64_w, i32_w]; rw [c22b0]) | skip)
            have H' := Aside0.mk H
            clear H
            go_wp2
            go_meet
            case rel => exact ⟨_, (true), (by first | rfl | (simp; done) | (simp [*]; done)), H', ⟨by first | omega | exact Nat.le_refl _⟩, ⟨by repeat (first | (with_reducible first | exact HB.out | apply below_alloc | apply pw_below_drewN | apply below_drew1) | exact HB.out)⟩⟩
          · rw [if_neg c22] at H
            have c22b0 : ((a0.toList == a1.toList) != false) = false := by simpa using c22
            (try (have c22b1 : decide ((a0.toList == a1.toList) = false) = true := by simpa using c22))
            (try (have c22b2 : ((a0.toList == a1.toList) == false) = true := by simpa using c22))
            clear c22
            (first | rw [c22b0] | (simp only [i64_w, i32_w]; rw [c22b0]) | skip)
            replace H := Option.bind_eq_some_iff.mp H
            obtain ⟨t171, A230, H⟩ := H
            replace H : (if t171 = true then (tributarylaw03_PathOrder.j0 k a0 a1 a2 t164 true true) else ((path_Less.f a1 a2).bind fun t172 => (if t172 = true then ((path_Less.f a0 a2).bind fun t173 => (tributarylaw03_PathOrder.j0 k a0 a1 a2 t164 true (!t173))) else (tributarylaw03_PathOrder.j0 k a0 a1 a2 t164 true false)))) = some r := H
            have A23 := Aside0.mk A230
            clear A230
            by_cases c24 : t171 = true
            · subst c24
              have H1 : (tributarylaw03_PathOrder.j0 k a0 a1 a2 t164 true true) = some r := by rw [if_pos rfl] at H; exact H
              clear H
              have H := H1
              clear H1
              have H' := Aside0.mk H
              clear H
              go_wp2_with (first | (go_at_call 24; (with_reducible refine (path_Less.calls a0 a0 true _ A23.out).mono ?_); rintro e w25 ⟨rfl, hb⟩; have n0_ := Aside0.mk (Kd.R_below (by (with_reducible repeat (first | apply Kd.R_alloc | apply Kd.R_drewN | apply Kd.R_drew)); exact HO167.out) hb); have n1_ := Aside0.mk (below_step (by repeat (first | (with_reducible first | exact HB.out | apply below_alloc | apply pw_below_drewN | apply below_drew1) | exact HB.out)) hb); clear HO167; clear HB; have HO167 := n0_; have HB := n1_; clear n0_ n1_; (try clear hb); (try clear hb2); (try clear hk); (try clear hi)))
              go_meet
              case rel => exact ⟨_, (true), (by first | rfl | (simp; done) | (simp [*]; done)), H', ⟨by first | omega | exact Nat.le_refl _⟩, ⟨by repeat (first | (with_reducible first | exact HB.out | apply below_alloc | apply pw_below_drewN | apply below_drew1) | exact HB.out)⟩⟩
            · replace c24 := Bool.eq_false_iff.mpr c24
              subst c24
              have H1 : ((path_Less.f a1 a2).bind fun t172 => (if t172 = true then ((path_Less.f a0 a2).bind fun t173 => (tributarylaw03_PathOrder.j0 k a0 a1 a2 t164 true (!t173))) else (tributarylaw03_PathOrder.j0 k a0 a1 a2 t164 true false))) = some r := by rw [if_neg (show ¬ (false = true) by decide)] at H; exact H
              clear H
              have H := H1
              clear H1
              replace H := Option.bind_eq_some_iff.mp H
              obtain ⟨t172, A260, H⟩ := H
              replace H : (if t172 = true then ((path_Less.f a0 a2).bind fun t173 => (tributarylaw03_PathOrder.j0 k a0 a1 a2 t164 true (!t173))) else (tributarylaw03_PathOrder.j0 k a0 a1 a2 t164 true false)) = some r := H
              have A26 := Aside0.mk A260
              clear A260
              by_cases c27 : t172 = true
              · subst c27
                have H1 : ((path_Less.f a0 a2).bind fun t173 => (tributarylaw03_PathOrder.j0 k a0 a1 a2 t164 true (!t173))) = some r := by rw [if_pos rfl] at H; exact H
                clear H
                have H := H1
                clear H1
                replace H := Option.bind_eq_some_iff.mp H
                obtain ⟨t173, A280, H⟩ := H
                replace H : (tributarylaw03_PathOrder.j0 k a0 a1 a2 t164 true (!t173)) = some r := H
                have A28 := Aside0.mk A280
                clear A280
                have H' := Aside0.mk H
                clear H
                go_wp2_with (first | (go_at_call 24; (with_reducible refine (path_Less.calls a0 a0 false _ A23.out).mono ?_); rintro e w29 ⟨rfl, hb⟩; have n0_ := Aside0.mk (Kd.R_below (by (with_reducible repeat (first | apply Kd.R_alloc | apply Kd.R_drewN | apply Kd.R_drew)); exact HO167.out) hb); have n1_ := Aside0.mk (below_step (by repeat (first | (with_reducible first | exact HB.out | apply below_alloc | apply pw_below_drewN | apply below_drew1) | exact HB.out)) hb); clear HO167; clear HB; have HO167 := n0_; have HB := n1_; clear n0_ n1_; (try clear hb); (try clear hb2); (try clear hk); (try clear hi)) | (go_at_call 24; (with_reducible refine (path_Less.calls a1 a2 true _ A26.out).mono ?_); rintro e w30 ⟨rfl, hb⟩; have n0_ := Aside0.mk (Kd.R_below (by (with_reducible repeat (first | apply Kd.R_alloc | apply Kd.R_drewN | apply Kd.R_drew)); exact HO167.out) hb); have n1_ := Aside0.mk (below_step (by repeat (first | (with_reducible first | exact HB.out | apply below_alloc | apply pw_below_drewN | apply below_drew1) | exact HB.out)) hb); clear HO167; clear HB; have HO167 := n0_; have HB := n1_; clear n0_ n1_; (try clear hb); (try clear hb2); (try clear hk); (try clear hi)) | (go_at_call 24; (with_reducible refine (path_Less.calls a0 a2 t173 _ A28.out).mono ?_); rintro e w31 ⟨rfl, hb⟩; have n0_ := Aside0.mk (Kd.R_below (by (with_reducible repeat (first | apply Kd.R_alloc | apply Kd.R_drewN | apply Kd.R_drew)); exact HO167.out) hb); have n1_ := Aside0.mk (below_step (by repeat (first | (with_reducible first | exact HB.out | apply below_alloc | apply pw_below_drewN | apply below_drew1) | exact HB.out)) hb); clear HO167; clear HB; have HO167 := n0_; have HB := n1_; clear n0_ n1_; (try clear hb); (try clear hb2); (try clear hk); (try clear hi)))
                go_meet
                case rel => exact ⟨_, (!t173), (by first | rfl | (simp; done) | (simp [*]; done)), H', ⟨by first | omega | exact Nat.le_refl _⟩, ⟨by repeat (first | (with_reducible first | exact HB.out | apply below_alloc | apply pw_below_drewN | apply below_drew1) | exact HB.out)⟩⟩
              · replace c27 := Bool.eq_false_iff.mpr c27
                subst c27
                have H1 : (tributarylaw03_PathOrder.j0 k a0 a1 a2 t164 true false) = some r := by rw [if_neg (show ¬ (false = true) by decide)] at H; exact H
                clear H
                have H := H1
                clear H1
                have H' := Aside0.mk H
                clear H
                go_wp2_with (first | (go_at_call 24; (with_reducible refine (path_Less.calls a0 a0 false _ A23.out).mono ?_); rintro e w32 ⟨rfl, hb⟩; have n0_ := Aside0.mk (Kd.R_below (by (with_reducible repeat (first | apply Kd.R_alloc | apply Kd.R_drewN | apply Kd.R_drew)); exact HO167.out) hb); have n1_ := Aside0.mk (below_step (by repeat (first | (with_reducible first | exact HB.out | apply below_alloc | apply pw_below_drewN | apply below_drew1) | exact HB.out)) hb); clear HO167; clear HB; have HO167 := n0_; have HB := n1_; clear n0_ n1_; (try clear hb); (try clear hb2); (try clear hk); (try clear hi)) | (go_at_call 24; (with_reducible refine (path_Less.calls a1 a2 false _ A26.out).mono ?_); rintro e w33 ⟨rfl, hb⟩; have n0_ := Aside0.mk (Kd.R_below (by (with_reducible repeat (first | apply Kd.R_alloc | apply Kd.R_drewN | apply Kd.R_drew)); exact HO167.out) hb); have n1_ := Aside0.mk (below_step (by repeat (first | (with_reducible first | exact HB.out | apply below_alloc | apply pw_below_drewN | apply below_drew1) | exact HB.out)) hb); clear HO167; clear HB; have HO167 := n0_; have HB := n1_; clear n0_ n1_; (try clear hb); (try clear hb2); (try clear hk); (try clear hi)))
                go_meet
                case rel => exact ⟨_, (false), (by first | rfl | (simp; done) | (simp [*]; done)), H', ⟨by first | omega | exact Nat.le_refl _⟩, ⟨by repeat (first | (with_reducible first | exact HB.out | apply below_alloc | apply pw_below_drewN | apply below_drew1) | exact HB.out)⟩⟩
      · replace c20 := Bool.eq_false_iff.mpr c20
        subst c20
        have H1 : (if ((a0.toList == a1.toList) != (!t170)) = true then (tributarylaw03_PathOrder.j0 k a0 a1 a2 t164 false true) else ((path_Less.f a0 a0).bind fun t174 => (if t174 = true then (tributarylaw03_PathOrder.j0 k a0 a1 a2 t164 false true) else (tributarylaw03_PathOrder.j0 k a0 a1 a2 t164 false false)))) = some r := by rw [if_neg (show ¬ (false = true) by decide)] at H; exact H
        clear H
        have H := H1
        clear H1
        cases t170
        · simp only [Bool.not_false, Bool.not_true] at H
          by_cases c34 : ((a0.toList == a1.toList) != true) = true
          · rw [if_pos c34] at H
            have c34b0 : ((a0.toList == a1.toList) != true) = true := c34
            (try (have c34b1 : decide ((a0.toList == a1.toList) = true) = false := by simpa using c34))
            (try (have c34b2 : ((a0.toList == a1.toList) == true) = false := by simpa using c34))
            (try (have c34b3 : ¬ ((a0.toList == a1.toList) = true) := by simpa using c34))
            clear c34
            have H' := Aside0.mk H
            clear H
            go_wp2
            go_meet
            case rel => exact ⟨_, (true), (by first | rfl | (simp; done) | (simp [*]; done)), H', ⟨by first | omega | exact Nat.le_refl _⟩, ⟨by repeat (first | (with_reducible first | exact HB.out | apply below_alloc | apply pw_below_drewN | apply below_drew1) | exact HB.out)⟩⟩
          · rw [if_neg c34] at H
            have c34b0 : ((a0.toList == a1.toList) != true) = false := by simpa using c34
            (try (have c34b1 : decide ((a0.toList == a1.toList) = true) = true := by simpa using c34))
            (try (have c34b2 : ((a0.toList == a1.toList) == true) = true := by simpa using c34))
            clear c34
            replace H := Option.bind_eq_some_iff.mp H
            obtain ⟨t174, A350, H⟩ := H
            replace H : (if t174 = true then (tributarylaw03_PathOrder.j0 k a0 a1 a2 t164 false true) else (tributarylaw03_PathOrder.j0 k a0 a1 a2 t164 false false)) = some r := H
            have A35 := Aside0.mk A350
            clear A350
            by_cases c36 : t174 = true
            · subst c36
              have H1 : (tributarylaw03_PathOrder.j0 k a0 a1 a2 t164 false true) = some r := by rw [if_pos rfl] at H; exact H
              clear H
              have H := H1
              clear H1
              have H' := Aside0.mk H
              clear H
              go_wp2_with (first | (go_at_call 24; (with_reducible refine (path_Less.calls a0 a0 true _ A35.out).mono ?_); rintro e w37 ⟨rfl, hb⟩; have n0_ := Aside0.mk (Kd.R_below (by (with_reducible repeat (first | apply Kd.R_alloc | apply Kd.R_drewN | apply Kd.R_drew)); exact HO167.out) hb); have n1_ := Aside0.mk (below_step (by repeat (first | (with_reducible first | exact HB.out | apply below_alloc | apply pw_below_drewN | apply below_drew1) | exact HB.out)) hb); clear HO167; clear HB; have HO167 := n0_; have HB := n1_; clear n0_ n1_; (try clear hb); (try clear hb2); (try clear hk); (try clear hi)))
              go_meet
              case rel => exact ⟨_, (true), (by first | rfl | (simp; done) | (simp [*]; done)), H', ⟨by first | omega | exact Nat.le_refl _⟩, ⟨by repeat (first | (with_reducible first | exact HB.out | apply below_alloc | apply pw_below_drewN | apply below_drew1) | exact HB.out)⟩⟩
            · replace c36 := Bool.eq_false_iff.mpr c36
              subst c36
              have H1 : (tributarylaw03_PathOrder.j0 k a0 a1 a2 t164 false false) = some r := by rw [if_neg (show ¬ (false = true) by decide)] at H; exact H
              clear H
              have H := H1
              clear H1
              have H' := Aside0.mk H
              clear H
              go_wp2_with (first | (go_at_call 24; (with_reducible refine (path_Less.calls a0 a0 false _ A35.out).mono ?_); rintro e w38 ⟨rfl, hb⟩; have n0_ := Aside0.mk (Kd.R_below (by (with_reducible repeat (first | apply Kd.R_alloc | apply Kd.R_drewN | apply Kd.R_drew)); exact HO167.out) hb); have n1_ := Aside0.mk (below_step (by repeat (first | (with_reducible first | exact HB.out | apply below_alloc | apply pw_below_drewN | apply below_drew1) | exact HB.out)) hb); clear HO167; clear HB; have HO167 := n0_; have HB := n1_; clear n0_ n1_; (try clear hb); (try clear hb2); (try clear hk); (try clear hi)))
              go_meet
              case rel => exact ⟨_, (false), (by first | rfl | (simp; done) | (simp [*]; done)), H', ⟨by first | omega | exact Nat.le_refl _⟩, ⟨by repeat (first | (with_reducible first | exact HB.out | apply below_alloc | apply pw_below_drewN | apply below_drew1) | exact HB.out)⟩⟩
        · simp only [Bool.not_false, Bool.not_true] at H
          by_cases c34 : ((a0.toList == a1.toList) != false) = true
          · rw [if_pos c34] at H
            have c34b0 : ((a0.toList == a1.toList) != false) = true := c34
            (try (have c34b1 : decide ((a0.toList == a1.toList) = false) = false := by simpa using c34))
            (try (have c34b2 : ((a0.toList == a1.toList) == false) = false := by simpa using c34))
            (try (have c34b3 : ¬ ((a0.toList == a1.toList) = false) := by simpa using c34))
            clear c34
            have H' := Aside0.mk H
            clear H
            go_wp2
            go_meet
            case rel => exact ⟨_, (true), (by first | rfl | (simp; done) | (simp [*]; done)), H', ⟨by first | omega | exact Nat.le_refl _⟩, ⟨by repeat (first | (with_reducible first | exact HB.out | apply below_alloc | apply pw_below_drewN | apply below_drew1) | exact HB.out)⟩⟩
          · rw [if_neg c34] at H
            have c34b0 : ((a0.toList == a1.toList) != false) = false := by simpa using c34
            (try (have c34b1 : decide ((a0.toList == a1.toList) = false) = true := by simpa using c34))
            (try (have c34b2 : ((a0.toList == a1.toList) == false) = true := by simpa using c34))
            clear c34
            replace H := Option.bind_eq_some_iff.mp H
            obtain ⟨t174, A350, H⟩ := H
            replace H : (if t174 = true then (tributarylaw03_PathOrder.j0 k a0 a1 a2 t164 false true) else (tributarylaw03_PathOrder.j0 k a0 a1 a2 t164 false false)) = some r := H
            have A35 := Aside0.mk A350
            clear A350
            by_cases c36 : t174 = true
            · subst c36
              have H1 : (tributarylaw03_PathOrder.j0 k a0 a1 a2 t164 false true) = some r := by rw [if_pos rfl] at H; exact H
              clear H
              have H := H1
              clear H1
              have H' := Aside0.mk H
              clear H
              go_wp2_with (first | (go_at_call 24; (with_reducible refine (path_Less.calls a0 a0 true _ A35.out).mono ?_); rintro e w37 ⟨rfl, hb⟩; have n0_ := Aside0.mk (Kd.R_below (by (with_reducible repeat (first | apply Kd.R_alloc | apply Kd.R_drewN | apply Kd.R_drew)); exact HO167.out) hb); have n1_ := Aside0.mk (below_step (by repeat (first | (with_reducible first | exact HB.out | apply below_alloc | apply pw_below_drewN | apply below_drew1) | exact HB.out)) hb); clear HO167; clear HB; have HO167 := n0_; have HB := n1_; clear n0_ n1_; (try clear hb); (try clear hb2); (try clear hk); (try clear hi)))
              go_meet
              case rel => exact ⟨_, (true), (by first | rfl | (simp; done) | (simp [*]; done)), H', ⟨by first | omega | exact Nat.le_refl _⟩, ⟨by repeat (first | (with_reducible first | exact HB.out | apply below_alloc | apply pw_below_drewN | apply below_drew1) | exact HB.out)⟩⟩
            · replace c36 := Bool.eq_false_iff.mpr c36
              subst c36
              have H1 : (tributarylaw03_PathOrder.j0 k a0 a1 a2 t164 false false) = some r := by rw [if_neg (show ¬ (false = true) by decide)] at H; exact H
              clear H
              have H := H1
              clear H1
              have H' := Aside0.mk H
              clear H
              go_wp2_with (first | (go_at_call 24; (with_reducible refine (path_Less.calls a0 a0 false _ A35.out).mono ?_); rintro e w38 ⟨rfl, hb⟩; have n0_ := Aside0.mk (Kd.R_below (by (with_reducible repeat (first | apply Kd.R_alloc | apply Kd.R_drewN | apply Kd.R_drew)); exact HO167.out) hb); have n1_ := Aside0.mk (below_step (by repeat (first | (with_reducible first | exact HB.out | apply below_alloc | apply pw_below_drewN | apply below_drew1) | exact HB.out)) hb); clear HO167; clear HB; have HO167 := n0_; have HB := n1_; clear n0_ n1_; (try clear hb); (try clear hb2); (try clear hk); (try clear hi)))
              go_meet
              case rel => exact ⟨_, (false), (by first | rfl | (simp; done) | (simp [*]; done)), H', ⟨by first | omega | exact Nat.le_refl _⟩, ⟨by repeat (first | (with_reducible first | exact HB.out | apply below_alloc | apply pw_below_drewN | apply below_drew1) | exact HB.out)⟩⟩
    case rest =>
      clear HC13
      try clear c2
      try clear p2
      try clear c3
      try clear c4
      try clear c6
      try clear c9
      try clear c20
      try clear c21
      try clear c22
      try clear c22b0
      try clear c22b1
      try clear c22b2
      try clear c24
      try clear c27
      try clear c34
      try clear c34b0
      try clear c34b1
      try clear c34b2
      try clear c36
      obtain ⟨kq, x58_12, rfl, HA, HJ12, HB⟩ := hcut
      cases kq with
      | zero => exact absurd HA.out (by simp [tributarylaw03_PathOrder.j0])
      | succ kj12 =>
        have H := HA.out
        clear HA
        simp only [tributarylaw03_PathOrder.j0] at H
        by_cases c39 : x58_12 = true
        · subst c39
          have H1 : (some false) = some r := by rw [if_pos rfl] at H; exact H
          clear H
          have H := H1
          clear H1
          obtain rfl := Option.some.inj H
          go_wp2
          go_ret
          exact ⟨by first | rfl | (simp [errW_none, errW_some, pp_bne]; done) | (simp [errW_none, errW_some] <;> rfl) | (simp [*, errW_none, errW_some] <;> rfl), by repeat (first | (with_reducible first | exact HB.out | apply below_alloc | apply pw_below_drewN | apply below_drew1) | exact HB.out)⟩
        · replace c39 := Bool.eq_false_iff.mpr c39
          subst c39
          have H1 : (if t169 = true then ((path_Less.f a1 a2).bind fun t175 => (if t175 = true then ((path_Under.f kj12 a0 a2).bind fun t176 => (if t176 = true then ((path_Check.f a1).bind fun t177 => (tributarylaw03_PathOrder.j1 kj12 a0 a1 t164 t169 (t177 == 0))) else (tributarylaw03_PathOrder.j1 kj12 a0 a1 t164 t169 false))) else (tributarylaw03_PathOrder.j1 kj12 a0 a1 t164 t169 false))) else (tributarylaw03_PathOrder.j1 kj12 a0 a1 t164 t169 false)) = some r := by rw [if_neg (show ¬ (false = true) by decide)] at H; exact H
          clear H
          have H := H1
          clear H1
          have HC40 := Aside0.mk H
          clear H
          go_upto_region 7 with (fail)
          go_cut [10] (fun v10 wc => ∃ (kq : Nat) (x10_39 : Bool), v10 = .bool x10_39 ∧ Aside0 (tributarylaw03_PathOrder.j1 kq a0 a1 t164 t169 x10_39 = some r) ∧ Aside0 (kq ≤ kj12) ∧ Aside0 (Below w.heap.size w wc))
          case first =>
            have H := HC40.out
            clear HC40
            by_cases c41 : t169 = true
            · subst c41
              have H1 : ((path_Less.f a1 a2).bind fun t175 => (if t175 = true then ((path_Under.f kj12 a0 a2).bind fun t176 => (if t176 = true then ((path_Check.f a1).bind fun t177 => (tributarylaw03_PathOrder.j1 kj12 a0 a1 t164 true (t177 == 0))) else (tributarylaw03_PathOrder.j1 kj12 a0 a1 t164 true false))) else (tributarylaw03_PathOrder.j1 kj12 a0 a1 t164 true false))) = some r := by rw [if_pos rfl] at H; exact H
              clear H
              have H := H1
              clear H1
              replace H := Option.bind_eq_some_iff.mp H
              obtain ⟨t175, A420, H⟩ := H
              replace H : (if t175 = true then ((path_Under.f kj12 a0 a2).bind fun t176 => (if t176 = true then ((path_Check.f a1).bind fun t177 => (tributarylaw03_PathOrder.j1 kj12 a0 a1 t164 true (t177 == 0))) else (tributarylaw03_PathOrder.j1 kj12 a0 a1 t164 true false))) else (tributarylaw03_PathOrder.j1 kj12 a0 a1 t164 true false)) = some r := H
              have A42 := Aside0.mk A420
              clear A420
              by_cases c43 : t175 = true
              · subst c43
                have H1 : ((path_Under.f kj12 a0 a2).bind fun t176 => (if t176 = true then ((path_Check.f a1).bind fun t177 => (tributarylaw03_PathOrder.j1 kj12 a0 a1 t164 true (t177 == 0))) else (tributarylaw03_PathOrder.j1 kj12 a0 a1 t164 true false))) = some r := by rw [if_pos rfl] at H; exact H
                clear H
                have H := H1
                clear H1
                replace H := Option.bind_eq_some_iff.mp H
                obtain ⟨t176, A440, H⟩ := H
                replace H : (if t176 = true then ((path_Check.f a1).bind fun t177 => (tributarylaw03_PathOrder.j1 kj12 a0 a1 t164 true (t177 == 0))) else (tributarylaw03_PathOrder.j1 kj12 a0 a1 t164 true false)) = some r := H
                have A44 := Aside0.mk A440
                clear A440
                by_cases c45 : t176 = true
                · subst c45
                  have H1 : ((path_Check.f a1).bind fun t177 => (tributarylaw03_PathOrder.j1 kj12 a0 a1 t164 true (t177 == 0))) = some r := by rw [if_pos rfl] at H; exact H
                  clear H
                  have H := H1
                  clear H1
                  replace H := Option.bind_eq_some_iff.mp H
                  obtain ⟨t177, A460, H⟩ := H
                  replace H : (tributarylaw03_PathOrder.j1 kj12 a0 a1 t164 true (t177 == 0)) = some r := H
                  have A46 := Aside0.mk A460
                  clear A460
                  have H' := Aside0.mk H
                  clear H
                  go_wp2_with (first | (go_at_call 24; (with_reducible refine (path_Less.calls a1 a2 true _ A42.out).mono ?_); rintro e w47 ⟨rfl, hb⟩; have n0_ := Aside0.mk (below_step (by repeat (first | (with_reducible first | exact HB.out | apply below_alloc | apply pw_below_drewN | apply below_drew1) | exact HB.out)) hb); clear HB; have HB := n0_; clear n0_; (try clear hb); (try clear hb2); (try clear hk); (try clear hi)) | (go_at_call 19; (with_reducible refine (path_Under.calls kj12 a0 a2 true _ A44.out).mono ?_); rintro e w48 ⟨rfl, hb⟩; have n0_ := Aside0.mk (below_step (by repeat (first | (with_reducible first | exact HB.out | apply below_alloc | apply pw_below_drewN | apply below_drew1) | exact HB.out)) hb); clear HB; have HB := n0_; clear n0_; (try clear hb); (try clear hb2); (try clear hk); (try clear hi)) | (go_at_call 17; (with_reducible refine (path_Check.calls a1 t177 _ A46.out).mono ?_); rintro e w49 ⟨rfl, hb⟩; have n0_ := Aside0.mk (below_step (by repeat (first | (with_reducible first | exact HB.out | apply below_alloc | apply pw_below_drewN | apply below_drew1) | exact HB.out)) hb); clear HB; have HB := n0_; clear n0_; (try clear hb); (try clear hb2); (try clear hk); (try clear hi)))
                  go_meet
                  case rel => exact ⟨_, ((t177 == 0)), (by first | rfl | (simp; done) | (simp [*]; done)), H', ⟨by have := HJ12.out; first | omega | exact Nat.le_refl _⟩, ⟨by repeat (first | (with_reducible first | exact HB.out | apply below_alloc | apply pw_below_drewN | apply below_drew1) | exact HB.out)⟩⟩
                · replace c45 := Bool.eq_false_iff.mpr c45
                  subst c45
                  have H1 : (tributarylaw03_PathOrder.j1 kj12 a0 a1 t164 true false) = some r := by rw [if_neg (show ¬ (false = true) by decide)] at H; exact H
                  clear H
                  have H := H1
                  clear H1
                  have H' := Aside0.mk H
                  clear H
                  go_wp2_with (first | (go_at_call 24; (with_reducible refine (path_Less.calls a1 a2 true _ A42.out).mono ?_); rintro e w50 ⟨rfl, hb⟩; have n0_ := Aside0.mk (below_step (by repeat (first | (with_reducible first | exact HB.out | apply below_alloc | apply pw_below_drewN | apply below_drew1) | exact HB.out)) hb); clear HB; have HB := n0_; clear n0_; (try clear hb); (try clear hb2); (try clear hk); (try clear hi)) | (go_at_call 19; (with_reducible refine (path_Under.calls kj12 a0 a2 false _ A44.out).mono ?_); rintro e w51 ⟨rfl, hb⟩; have n0_ := Aside0.mk (below_step (by repeat (first | (with_reducible first | exact HB.out | apply below_alloc | apply pw_below_drewN | apply below_drew1) | exact HB.out)) hb); clear HB; have HB := n0_; clear n0_; (try clear hb); (try clear hb2); (try clear hk); (try clear hi)))
                  go_meet
                  case rel => exact ⟨_, (false), (by first | rfl | (simp; done) | (simp [*]; done)), H', ⟨by have := HJ12.out; first | omega | exact Nat.le_refl _⟩, ⟨by repeat (first | (with_reducible first | exact HB.out | apply below_alloc | apply pw_below_drewN | apply below_drew1) | exact HB.out)⟩⟩
              · replace c43 := Bool.eq_false_iff.mpr c43
                subst c43
                have H1 : (tributarylaw03_PathOrder.j1 kj12 a0 a1 t164 true false) = some r := by rw [if_neg (show ¬ (false = true) by decide)] at H; exact H
                clear H
                have H := H1
                clear H1
                have H' := Aside0.mk H
                clear H
                go_wp2_with (first | (go_at_call 24; (with_reducible refine (path_Less.calls a1 a2 false _ A42.out).mono ?_); rintro e w52 ⟨rfl, hb⟩; have n0_ := Aside0.mk (below_step (by repeat (first | (with_reducible first | exact HB.out | apply below_alloc | apply pw_below_drewN | apply below_drew1) | exact HB.out)) hb); clear HB; have HB := n0_; clear n0_; (try clear hb); (try clear hb2); (try clear hk); (try clear hi)))
                go_meet
                case rel => exact ⟨_, (false), (by first | rfl | (simp; done) | (simp [*]; done)), H', ⟨by have := HJ12.out; first | omega | exact Nat.le_refl _⟩, ⟨by repeat (first | (with_reducible first | exact HB.out | apply below_alloc | apply pw_below_drewN | apply below_drew1) | exact HB.out)⟩⟩
            · replace c41 := Bool.eq_false_iff.mpr c41
              subst c41
              have H1 : (tributarylaw03_PathOrder.j1 kj12 a0 a1 t164 false false) = some r := by rw [if_neg (show ¬ (false = true) by decide)] at H; exact H
              clear H
              have H := H1
              clear H1
              have H' := Aside0.mk H
              clear H
              go_wp2
              go_meet
              case rel => exact ⟨_, (false), (by first | rfl | (simp; done) | (simp [*]; done)), H', ⟨by have := HJ12.out; first | omega | exact Nat.le_refl _⟩, ⟨by repeat (first | (with_reducible first | exact HB.out | apply below_alloc | apply pw_below_drewN | apply below_drew1) | exact HB.out)⟩⟩
          case rest =>
            clear HC40
            try clear c2
            try clear p2
            try clear c3
            try clear c4
            try clear c6
            try clear c9
            try clear c20
            try clear c21
            try clear c22
            try clear c22b0
            try clear c22b1
            try clear c22b2
            try clear c24
            try clear c27
            try clear c34
            try clear c34b0
            try clear c34b1
            try clear c34b2
            try clear c36
            try clear c39
            try clear c41
            try clear c43
            try clear c45
            try clear p2
            obtain ⟨kq, x10_39, rfl, HA, HJ39, HB⟩ := hcut
            cases kq with
            | zero => exact absurd HA.out (by simp [tributarylaw03_PathOrder.j1])
            | succ kj39 =>
              have H := HA.out
              clear HA
              simp only [tributarylaw03_PathOrder.j1] at H
              by_cases c53 : t164 = true
              · subst c53
                have H1 : (if x10_39 = true then ((path_Under.f kj39 a0 a1).bind fun t178 => (if t178 = true then ((path_Under.f kj39 a0 a1).bind fun t179 => (if t179 = true then (if t169 = true then ((path_Near.f kj39 a0 a1).bind fun t180 => ((path_Near.f kj39 a1 a0).bind fun t181 => (some (t180 == t181)))) else (some false)) else ((path_Near.f kj39 a0 a1).bind fun t182 => ((path_Near.f kj39 a1 a0).bind fun t183 => (some (t182 == t183)))))) else (some false))) else ((path_Under.f kj39 a0 a1).bind fun t184 => (if t184 = true then (if t169 = true then ((path_Near.f kj39 a0 a1).bind fun t185 => ((path_Near.f kj39 a1 a0).bind fun t186 => (some (t185 == t186)))) else (some false)) else ((path_Near.f kj39 a0 a1).bind fun t187 => ((path_Near.f kj39 a1 a0).bind fun t188 => (some (t187 == t188))))))) = some r := by rw [if_pos rfl] at H; exact H
                clear H
                have H := H1
                clear H1
                by_cases c54 : x10_39 = true
                · subst c54
                  have H1 : ((path_Under.f kj39 a0 a1).bind fun t178 => (if t178 = true then ((path_Under.f kj39 a0 a1).bind fun t179 => (if t179 = true then (if t169 = true then ((path_Near.f kj39 a0 a1).bind fun t180 => ((path_Near.f kj39 a1 a0).bind fun t181 => (some (t180 == t181)))) else (some false)) else ((path_Near.f kj39 a0 a1).bind fun t182 => ((path_Near.f kj39 a1 a0).bind fun t183 => (some (t182 == t183)))))) else (some false))) = some r := by rw [if_pos rfl] at H; exact H
                  clear H
                  have H := H1
                  clear H1
                  replace H := Option.bind_eq_some_iff.mp H
                  obtain ⟨t178, A550, H⟩ := H
                  replace H : (if t178 = true then ((path_Under.f kj39 a0 a1).bind fun t179 => (if t179 = true then (if t169 = true then ((path_Near.f kj39 a0 a1).bind fun t180 => ((path_Near.f kj39 a1 a0).bind fun t181 => (some (t180 == t181)))) else (some false)) else ((path_Near.f kj39 a0 a1).bind fun t182 => ((path_Near.f kj39 a1 a0).bind fun t183 => (some (t182 == t183)))))) else (some false)) = some r := H
                  have A55 := Aside0.mk A550
                  clear A550
                  by_cases c56 : t178 = true
                  · subst c56
                    have H1 : ((path_Under.f kj39 a0 a1).bind fun t179 => (if t179 = true then (if t169 = true then ((path_Near.f kj39 a0 a1).bind fun t180 => ((path_Near.f kj39 a1 a0).bind fun t181 => (some (t180 == t181)))) else (some false)) else ((path_Near.f kj39 a0 a1).bind fun t182 => ((path_Near.f kj39 a1 a0).bind fun t183 => (some (t182 == t183)))))) = some r := by rw [if_pos rfl] at H; exact H
                    clear H
                    have H := H1
                    clear H1
                    replace H := Option.bind_eq_some_iff.mp H
                    obtain ⟨t179, A570, H⟩ := H
                    replace H : (if t179 = true then (if t169 = true then ((path_Near.f kj39 a0 a1).bind fun t180 => ((path_Near.f kj39 a1 a0).bind fun t181 => (some (t180 == t181)))) else (some false)) else ((path_Near.f kj39 a0 a1).bind fun t182 => ((path_Near.f kj39 a1 a0).bind fun t183 => (some (t182 == t183))))) = some r := H
                    have A57 := Aside0.mk A570
                    clear A570
                    by_cases c58 : t179 = true
                    · subst c58
                      have H1 : (if t169 = true then ((path_Near.f kj39 a0 a1).bind fun t180 => ((path_Near.f kj39 a1 a0).bind fun t181 => (some (t180 == t181)))) else (some false)) = some r := by rw [if_pos rfl] at H; exact H
                      clear H
                      have H := H1
                      clear H1
                      by_cases c59 : t169 = true
                      · subst c59
                        have H1 : ((path_Near.f kj39 a0 a1).bind fun t180 => ((path_Near.f kj39 a1 a0).bind fun t181 => (some (t180 == t181)))) = some r := by rw [if_pos rfl] at H; exact H
                        clear H
                        have H := H1
                        clear H1
                        replace H := Option.bind_eq_some_iff.mp H
                        obtain ⟨t180, A600, H⟩ := H
                        replace H : ((path_Near.f kj39 a1 a0).bind fun t181 => (some (t180 == t181))) = some r := H
                        have A60 := Aside0.mk A600
                        clear A600
                        replace H := Option.bind_eq_some_iff.mp H
                        obtain ⟨t181, A610, H⟩ := H
                        replace H : (some (t180 == t181)) = some r := H
                        have A61 := Aside0.mk A610
                        clear A610
                        obtain rfl := Option.some.inj H
                        go_wp2_with (first | (go_at_call 19; (with_reducible refine (path_Under.calls kj39 a0 a1 true _ A55.out).mono ?_); rintro e w62 ⟨rfl, hb⟩; have n0_ := Aside0.mk (below_step (by repeat (first | (with_reducible first | exact HB.out | apply below_alloc | apply pw_below_drewN | apply below_drew1) | exact HB.out)) hb); clear HB; have HB := n0_; clear n0_; (try clear hb); (try clear hb2); (try clear hk); (try clear hi)) | (go_at_call 19; (with_reducible refine (path_Under.calls kj39 a0 a1 true _ A57.out).mono ?_); rintro e w63 ⟨rfl, hb⟩; have n0_ := Aside0.mk (below_step (by repeat (first | (with_reducible first | exact HB.out | apply below_alloc | apply pw_below_drewN | apply below_drew1) | exact HB.out)) hb); clear HB; have HB := n0_; clear n0_; (try clear hb); (try clear hb2); (try clear hk); (try clear hi)) | (go_at_call 20; (with_reducible refine (path_Near.calls kj39 a0 a1 t180 _ A60.out).mono ?_); rintro e w64 ⟨rfl, hb⟩; have n0_ := Aside0.mk (below_step (by repeat (first | (with_reducible first | exact HB.out | apply below_alloc | apply pw_below_drewN | apply below_drew1) | exact HB.out)) hb); clear HB; have HB := n0_; clear n0_; (try clear hb); (try clear hb2); (try clear hk); (try clear hi)) | (go_at_call 20; (with_reducible refine (path_Near.calls kj39 a1 a0 t181 _ A61.out).mono ?_); rintro e w65 ⟨rfl, hb⟩; have n0_ := Aside0.mk (below_step (by repeat (first | (with_reducible first | exact HB.out | apply below_alloc | apply pw_below_drewN | apply below_drew1) | exact HB.out)) hb); clear HB; have HB := n0_; clear n0_; (try clear hb); (try clear hb2); (try clear hk); (try clear hi)))
                        go_ret
                        exact ⟨by first | rfl | (simp [errW_none, errW_some, pp_bne]; done) | (simp [errW_none, errW_some] <;> rfl) | (simp [*, errW_none, errW_some] <;> rfl), by repeat (first | (with_reducible first | exact HB.out | apply below_alloc | apply pw_below_drewN | apply below_drew1) | exact HB.out)⟩
                      · replace c59 := Bool.eq_false_iff.mpr c59
                        subst c59
                        have H1 : (some false) = some r := by rw [if_neg (show ¬ (false = true) by decide)] at H; exact H
                        clear H
                        have H := H1
                        clear H1
                        obtain rfl := Option.some.inj H
                        go_wp2_with (first | (go_at_call 19; (with_reducible refine (path_Under.calls kj39 a0 a1 true _ A55.out).mono ?_); rintro e w66 ⟨rfl, hb⟩; have n0_ := Aside0.mk (below_step (by repeat (first | (with_reducible first | exact HB.out | apply below_alloc | apply pw_below_drewN | apply below_drew1) | exact HB.out)) hb); clear HB; have HB := n0_; clear n0_; (try clear hb); (try clear hb2); (try clear hk); (try clear hi)) | (go_at_call 19; (with_reducible refine (path_Under.calls kj39 a0 a1 true _ A57.out).mono ?_); rintro e w67 ⟨rfl, hb⟩; have n0_ := Aside0.mk (below_step (by repeat (first | (with_reducible first | exact HB.out | apply below_alloc | apply pw_below_drewN | apply below_drew1) | exact HB.out)) hb); clear HB; have HB := n0_; clear n0_; (try clear hb); (try clear hb2); (try clear hk); (try clear hi)))
                        go_ret
                        exact ⟨by first | rfl | (simp [errW_none, errW_some, pp_bne]; done) | (simp [errW_none, errW_some] <;> rfl) | (simp [*, errW_none, errW_some] <;> rfl), by repeat (first | (with_reducible first | exact HB.out | apply below_alloc | apply pw_below_drewN | apply below_drew1) | exact HB.out)⟩
                    · replace c58 := Bool.eq_false_iff.mpr c58
                      subst c58
                      exact absurd (A55.out.symm.trans A57.out) (by simp)
                  · replace c56 := Bool.eq_false_iff.mpr c56
                    subst c56
                    have H1 : (some false) = some r := by rw [if_neg (show ¬ (false = true) by decide)] at H; exact H
                    clear H
                    have H := H1
                    clear H1
                    obtain rfl := Option.some.inj H
                    go_wp2_with (first | (go_at_call 19; (with_reducible refine (path_Under.calls kj39 a0 a1 false _ A55.out).mono ?_); rintro e w74 ⟨rfl, hb⟩; have n0_ := Aside0.mk (below_step (by repeat (first | (with_reducible first | exact HB.out | apply below_alloc | apply pw_below_drewN | apply below_drew1) | exact HB.out)) hb); clear HB; have HB := n0_; clear n0_; (try clear hb); (try clear hb2); (try clear hk); (try clear hi)))
                    go_ret
                    exact ⟨by first | rfl | (simp [errW_none, errW_some, pp_bne]; done) | (simp [errW_none, errW_some] <;> rfl) | (simp [*, errW_none, errW_some] <;> rfl), by repeat (first | (with_reducible first | exact HB.out | apply below_alloc | apply pw_below_drewN | apply below_drew1) | exact HB.out)⟩
                · replace c54 := Bool.eq_false_iff.mpr c54
                  subst c54
                  have H1 : ((path_Under.f kj39 a0 a1).bind fun t184 => (if t184 = true then (if t169 = true then ((path_Near.f kj39 a0 a1).bind fun t185 => ((path_Near.f kj39 a1 a0).bind fun t186 => (some (t185 == t186)))) else (some false)) else ((path_Near.f kj39 a0 a1).bind fun t187 => ((path_Near.f kj39 a1 a0).bind fun t188 => (some (t187 == t188)))))) = some r := by rw [if_neg (show ¬ (false = true) by decide)] at H; exact H
                  clear H
                  have H := H1
                  clear H1
                  replace H := Option.bind_eq_some_iff.mp H
                  obtain ⟨t184, A750, H⟩ := H
                  replace H : (if t184 = true then (if t169 = true then ((path_Near.f kj39 a0 a1).bind fun t185 => ((path_Near.f kj39 a1 a0).bind fun t186 => (some (t185 == t186)))) else (some false)) else ((path_Near.f kj39 a0 a1).bind fun t187 => ((path_Near.f kj39 a1 a0).bind fun t188 => (some (t187 == t188))))) = some r := H
                  have A75 := Aside0.mk A750
                  clear A750
                  by_cases c76 : t184 = true
                  · subst c76
                    have H1 : (if t169 = true then ((path_Near.f kj39 a0 a1).bind fun t185 => ((path_Near.f kj39 a1 a0).bind fun t186 => (some (t185 == t186)))) else (some false)) = some r := by rw [if_pos rfl] at H; exact H
                    clear H
                    have H := H1
                    clear H1
                    by_cases c77 : t169 = true
                    · subst c77
                      have H1 : ((path_Near.f kj39 a0 a1).bind fun t185 => ((path_Near.f kj39 a1 a0).bind fun t186 => (some (t185 == t186)))) = some r := by rw [if_pos rfl] at H; exact H
                      clear H
                      have H := H1
                      clear H1
                      replace H := Option.bind_eq_some_iff.mp H
                      obtain ⟨t185, A780, H⟩ := H
                      replace H : ((path_Near.f kj39 a1 a0).bind fun t186 => (some (t185 == t186))) = some r := H
                      have A78 := Aside0.mk A780
                      clear A780
                      replace H := Option.bind_eq_some_iff.mp H
                      obtain ⟨t186, A790, H⟩ := H
                      replace H : (some (t185 == t186)) = some r := H
                      have A79 := Aside0.mk A790
                      clear A790
                      obtain rfl := Option.some.inj H
                      go_wp2_with (first | (go_at_call 19; (with_reducible refine (path_Under.calls kj39 a0 a1 true _ A75.out).mono ?_); rintro e w80 ⟨rfl, hb⟩; have n0_ := Aside0.mk (below_step (by repeat (first | (with_reducible first | exact HB.out | apply below_alloc | apply pw_below_drewN | apply below_drew1) | exact HB.out)) hb); clear HB; have HB := n0_; clear n0_; (try clear hb); (try clear hb2); (try clear hk); (try clear hi)) | (go_at_call 20; (with_reducible refine (path_Near.calls kj39 a0 a1 t185 _ A78.out).mono ?_); rintro e w81 ⟨rfl, hb⟩; have n0_ := Aside0.mk (below_step (by repeat (first | (with_reducible first | exact HB.out | apply below_alloc | apply pw_below_drewN | apply below_drew1) | exact HB.out)) hb); clear HB; have HB := n0_; clear n0_; (try clear hb); (try clear hb2); (try clear hk); (try clear hi)) | (go_at_call 20; (with_reducible refine (path_Near.calls kj39 a1 a0 t186 _ A79.out).mono ?_); rintro e w82 ⟨rfl, hb⟩; have n0_ := Aside0.mk (below_step (by repeat (first | (with_reducible first | exact HB.out | apply below_alloc | apply pw_below_drewN | apply below_drew1) | exact HB.out)) hb); clear HB; have HB := n0_; clear n0_; (try clear hb); (try clear hb2); (try clear hk); (try clear hi)))
                      go_ret
                      exact ⟨by first | rfl | (simp [errW_none, errW_some, pp_bne]; done) | (simp [errW_none, errW_some] <;> rfl) | (simp [*, errW_none, errW_some] <;> rfl), by repeat (first | (with_reducible first | exact HB.out | apply below_alloc | apply pw_below_drewN | apply below_drew1) | exact HB.out)⟩
                    · replace c77 := Bool.eq_false_iff.mpr c77
                      subst c77
                      have H1 : (some false) = some r := by rw [if_neg (show ¬ (false = true) by decide)] at H; exact H
                      clear H
                      have H := H1
                      clear H1
                      obtain rfl := Option.some.inj H
                      go_wp2_with (first | (go_at_call 19; (with_reducible refine (path_Under.calls kj39 a0 a1 true _ A75.out).mono ?_); rintro e w83 ⟨rfl, hb⟩; have n0_ := Aside0.mk (below_step (by repeat (first | (with_reducible first | exact HB.out | apply below_alloc | apply pw_below_drewN | apply below_drew1) | exact HB.out)) hb); clear HB; have HB := n0_; clear n0_; (try clear hb); (try clear hb2); (try clear hk); (try clear hi)))
                      go_ret
                      exact ⟨by first | rfl | (simp [errW_none, errW_some, pp_bne]; done) | (simp [errW_none, errW_some] <;> rfl) | (simp [*, errW_none, errW_some] <;> rfl), by repeat (first | (with_reducible first | exact HB.out | apply below_alloc | apply pw_below_drewN | apply below_drew1) | exact HB.out)⟩
                  · replace c76 := Bool.eq_false_iff.mpr c76
                    subst c76
                    have H1 : ((path_Near.f kj39 a0 a1).bind fun t187 => ((path_Near.f kj39 a1 a0).bind fun t188 => (some (t187 == t188)))) = some r := by rw [if_neg (show ¬ (false = true) by decide)] at H; exact H
                    clear H
                    have H := H1
                    clear H1
                    replace H := Option.bind_eq_some_iff.mp H
                    obtain ⟨t187, A840, H⟩ := H
                    replace H : ((path_Near.f kj39 a1 a0).bind fun t188 => (some (t187 == t188))) = some r := H
                    have A84 := Aside0.mk A840
                    clear A840
                    replace H := Option.bind_eq_some_iff.mp H
                    obtain ⟨t188, A850, H⟩ := H
                    replace H : (some (t187 == t188)) = some r := H
                    have A85 := Aside0.mk A850
                    clear A850
                    obtain rfl := Option.some.inj H
                    go_wp2_with (first | (go_at_call 19; (with_reducible refine (path_Under.calls kj39 a0 a1 false _ A75.out).mono ?_); rintro e w86 ⟨rfl, hb⟩; have n0_ := Aside0.mk (below_step (by repeat (first | (with_reducible first | exact HB.out | apply below_alloc | apply pw_below_drewN | apply below_drew1) | exact HB.out)) hb); clear HB; have HB := n0_; clear n0_; (try clear hb); (try clear hb2); (try clear hk); (try clear hi)) | (go_at_call 20; (with_reducible refine (path_Near.calls kj39 a0 a1 t187 _ A84.out).mono ?_); rintro e w87 ⟨rfl, hb⟩; have n0_ := Aside0.mk (below_step (by repeat (first | (with_reducible first | exact HB.out | apply below_alloc | apply pw_below_drewN | apply below_drew1) | exact HB.out)) hb); clear HB; have HB := n0_; clear n0_; (try clear hb); (try clear hb2); (try clear hk); (try clear hi)) | (go_at_call 20; (with_reducible refine (path_Near.calls kj39 a1 a0 t188 _ A85.out).mono ?_); rintro e w88 ⟨rfl, hb⟩; have n0_ := Aside0.mk (below_step (by repeat (first | (with_reducible first | exact HB.out | apply below_alloc | apply pw_below_drewN | apply below_drew1) | exact HB.out)) hb); clear HB; have HB := n0_; clear n0_; (try clear hb); (try clear hb2); (try clear hk); (try clear hi)))
                    go_ret
                    exact ⟨by first | rfl | (simp [errW_none, errW_some, pp_bne]; done) | (simp [errW_none, errW_some] <;> rfl) | (simp [*, errW_none, errW_some] <;> rfl), by repeat (first | (with_reducible first | exact HB.out | apply below_alloc | apply pw_below_drewN | apply below_drew1) | exact HB.out)⟩
              · replace c53 := Bool.eq_false_iff.mpr c53
                subst c53
                have H1 : (some false) = some r := by rw [if_neg (show ¬ (false = true) by decide)] at H; exact H
                clear H
                have H := H1
                clear H1
                obtain rfl := Option.some.inj H
                go_wp2
                go_ret
                exact ⟨by first | rfl | (simp [errW_none, errW_some, pp_bne]; done) | (simp [errW_none, errW_some] <;> rfl) | (simp [*, errW_none, errW_some] <;> rfl), by repeat (first | (with_reducible first | exact HB.out | apply below_alloc | apply pw_below_drewN | apply below_drew1) | exact HB.out)⟩

end Go.Proofs.YtgijjkdcidhmdaaDoor.Q
