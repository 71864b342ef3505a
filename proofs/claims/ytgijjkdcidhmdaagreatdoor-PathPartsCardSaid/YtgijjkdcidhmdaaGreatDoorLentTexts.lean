/- tributarykit.LentTexts: a copy with a tail of three texts behind its end, the cap just over them. -/
import Derived.Test.YtgijjkdcidhmdaaGreatDoorQ1
set_option linter.unusedVariables false
namespace Go.Proofs.YtgijjkdcidhmdaaGreatDoor
open Go.RowKit Go.Proofs.YtgijjkdcidhmdaaGreatDoorW.PrintWords Go.Proofs.YtgijjkdcidhmdaaGreatDoorW.PrintLast Go.Proofs.YtgijjkdcidhmdaaGreatDoorW.PrintMore

def bS (s : String) : ByteArray := s.toUTF8
def tailT : List ByteArray := [⟨#[120]⟩, ⟨#[121]⟩, ⟨#[122]⟩]

set_option maxHeartbeats 8000000 in
set_option maxRecDepth 100000 in
theorem lent_texts (A0 : Option Addr) (c0 : Nat) (l0 : List ByteArray) (w : World) (hr0 : Kd.C Kd.string w A0 l0.length l0) (hc0 : l0.length ≤ c0) (hl : l0.length < 8796093022100) :
    Calls Tryz.prog 44 #[.slice A0 l0.length c0] w fun e w' => ∃ A c, e = .returned (.slice A l0.length (l0.length + 3)) ∧
      Kd.R Kd.string 9 w' w.heap.size (fun _ => True) (.slice A (l0.length + 3) c) (l0 ++ tailT) ∧ Below w.heap.size w w' := by
  have HR0 := Aside0.mk hr0
  clear hr0
  have HB := Aside0.mk (Below.refl w.heap.size w)
  go_enter Tryz.func44, Tryz.ntmps44
  go_wp2_with (first
   | ((with_reducible refine gate_dst (N := 4) rfl ?_); refine Kd.R_lit Kd.string _ 9 ?hg (N := 4) ?hd (xs := ([] : List ByteArray)) (inner := []) (ok := fun _ => True) (okp := fun _ => True) ?hr ?hp (fun _ hk => hk) trivial (Below.refl _ _) (Nat.le_refl _) (by simp) ?_; (case hd => rfl); (case hg => rfl); (case hr => first | (go_simp; done) | (go_simp; rfl)); (case hp => exact (Reps.none _ _)); intro v1 w1 ho1 hb hg_ hnew_; clear hg_ hnew_; have n0_ := Aside0.mk (Kd.R_lower ho1 (below_size (by repeat (first | (with_reducible first | exact HB.out | apply below_alloc) | exact HB.out)))); have n1_ := Aside0.mk (below_step (by repeat (first | (with_reducible first | exact HB.out | apply below_alloc) | exact HB.out)) hb); clear HB; have HO1 := n0_; have HB := n1_; clear n0_ n1_; clear hb ho1)
   | ((with_reducible refine gate_builtin (b := .append) (xs := #[.tmp 4, .tmp 5]) rfl ?_); at_builtin; refine Kd.R_append_rows Kd.string (w0 := w) w.heap.size rfl (.tmp 4) (.tmp 5) 59 9 (.string ⟨#[]⟩) 16 rfl Tryz.underlying59 Q.info9 rfl (by decide) (by omega) v1 ([] : List ByteArray) l0 _ _ _ (fun _ => True) (fun _ => False) rfl rfl ?aO ?aR (fun _ _ h => h) (fun _ h => h.elim) ?aF ?aB ?aS ?aL ?_; (case aR => repeat (first | exact (Kd.C_below HR0.out HB.out) | (with_reducible refine Kd.C_alloc ?_ _))); (case aB => exact HB.out); (case aF => exact (fun _ _ => trivial)); (case aO => exact HO1.out); (case aS => exact below_size HB.out); (case aL => simp only [List.length_nil]; omega); intro v2 w2 ho hb hg hat; rw [List.nil_append] at ho; have n0_ := Aside0.mk (hb); have n1_ := Aside0.mk (ho); clear HB HO1; have HB := n0_; have HO2 := n1_; clear n0_ n1_; clear ho hb hg hat)
   | ((with_reducible refine gate_dst (N := 7) rfl ?_); refine Kd.R_lit Kd.string _ 9 ?hg (N := 7) ?hd (xs := ([⟨#[120]⟩, ⟨#[121]⟩, ⟨#[122]⟩] : List ByteArray)) (inner := [.string ⟨#[120]⟩, .string ⟨#[121]⟩, .string ⟨#[122]⟩]) (ok := fun _ => True) (okp := fun _ => True) ?hr ?hp (fun _ hk => hk) trivial (Below.refl _ _) (Nat.le_refl _) (by simp) ?_; (case hd => rfl); (case hg => rfl); (case hr => first | (go_simp; done) | (go_simp; rfl)); (case hp => exact (Reps.one (show Kd.M Kd.string _ _ _ ⟨#[120]⟩ [.string ⟨#[120]⟩] from rfl) (Reps.one (show Kd.M Kd.string _ _ _ ⟨#[121]⟩ [.string ⟨#[121]⟩] from rfl) (Reps.one (show Kd.M Kd.string _ _ _ ⟨#[122]⟩ [.string ⟨#[122]⟩] from rfl) (Reps.none _ _))))); intro v3 w3 ho3 hb hg_ hnew_; clear hg_ hnew_; have n0_ := Aside0.mk (Kd.R_below HO2.out hb); have n1_ := Aside0.mk (below_step HB.out hb); have n2_ := Aside0.mk (Kd.R_lower ho3 (below_size HB.out)); clear HB HO2; have HO2 := n0_; have HB := n1_; have HO3 := n2_; clear n0_ n1_ n2_; clear hb ho3; obtain ⟨A3, c3, e3⟩ := Kd.R_slice HO3.out; subst e3)
   | ((with_reducible refine gate_builtin (b := .append) (xs := #[.tmp 6, .tmp 7]) rfl ?_); at_builtin; refine Kd.R_append_rows Kd.string (w0 := w) w.heap.size rfl (.tmp 6) (.tmp 7) 59 9 (.string ⟨#[]⟩) 16 rfl Tryz.underlying59 Q.info9 rfl (by decide) (by omega) v2 l0 tailT _ _ _ (fun _ => True) (fun _ => False) rfl rfl ?aO ?aR (fun _ _ h => h) (fun _ h => h.elim) ?aF ?aB ?aS ?aL ?_; (case aR => exact (Kd.R_reads' HO3.out).2.2); (case aB => exact HB.out); (case aF => exact (fun _ _ => trivial)); (case aO => exact HO2.out); (case aS => exact below_size HB.out); (case aL => (simp only [List.length_cons, List.length_nil]; omega)); intro v4 w4 ho hb hg hat; have n0_ := Aside0.mk (hb); have n1_ := Aside0.mk (ho); clear HB HO2 HO3; have HB := n0_; have HO4 := n1_; clear n0_ n1_; clear ho hb hg hat; obtain ⟨A4, c4, e4⟩ := Kd.R_slice HO4.out; subst e4; have hcap := (Kd.R_reads' HO4.out).2.1; simp only [List.length_append, show tailT.length = 3 from rfl] at hcap))
  · go_ret
    exact ⟨A4, c4, rfl, by have := HO4.out; simpa [tailT] using this, HB.out⟩
end Go.Proofs.YtgijjkdcidhmdaaGreatDoor
