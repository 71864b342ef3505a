/- PathSorts: the law's walk. -/
import Derived.Test.YtgijjkdcidhmdaaDoorRefSort
import Derived.Test.YtgijjkdcidhmdaaDoorUPathSet
import Derived.Test.YtgijjkdcidhmdaaDoorLentTexts
import Derived.Test.YtgijjkdcidhmdaaDoorKeptTexts
import Derived.Test.YtgijjkdcidhmdaaDoorOverTexts
set_option linter.unusedVariables false
namespace Go.Proofs.YtgijjkdcidhmdaaDoor.Q
open Go.RowKit PX SU Go.Proofs.YtgijjkdcidhmdaaDoorW.PrintWords Go.Proofs.YtgijjkdcidhmdaaDoorW.PrintLast Go.Proofs.YtgijjkdcidhmdaaDoorW.PrintMore

theorem awake_calls (w : World) : Calls Tryd.prog 10 #[] w fun e w' => e = .returned (.bool true) ∧ Below w.heap.size w w' := by
  obtain ⟨K, hK⟩ := awake_eq
  exact tributarylaw03_awake.calls K true w (hK K (Nat.le_refl _))

set_option maxHeartbeats 8000000 in
set_option maxRecDepth 100000 in
theorem walk_PathSorts (a : Option Addr) (c : Nat) (l : List ByteArray) (w : World) (h : Go.Proofs.YtgijjkdcidhmdaaDoor.StrsArg w a c l) :
    Calls Tryd.prog 3 #[.slice a l.length c] w fun e w' => e = .returned (.bool true) ∧ Below w.heap.size w w' := by
  have HR0 := Aside0.mk h.reads
  have HC0 := h.cap
  have HL0 := h.len
  obtain ⟨K0, h0⟩ := long_eq l (by omega)
  have A0 := Aside0.mk (h0 K0 (Nat.le_refl _))
  clear h0 h
  cases hl : longL l with
  | true =>
    rw [hl] at A0
    clear hl
    go_enter Tryd.func3, Tryd.ntmps3
    go_wp2_with fail
    refine (tributarylaw03_long.calls K0 _ _ l true w HR0.out HC0 A0.out).mono ?_
    rintro e w' ⟨rfl, ⟨nd, rfl⟩⟩
    go_wp2_with fail
    refine (awake_calls _).mono ?_
    rintro e w1 ⟨rfl, hb⟩
    go_wp2_with fail
    go_ret
    exact ⟨rfl, below_step (pw_below_drewN (Below.refl _ _) _) hb⟩
  | false =>
    rw [hl] at A0
    have HS := Aside0.mk (long_no hl).1
    have HLL := (long_no hl).2
    have HSB : Aside0 (∀ x ∈ l, x.size < 4294967281) := ⟨fun x hx => by have := HS.out x hx; omega⟩
    clear hl HS
    obtain ⟨z, hz⟩ : ∃ z, (sortU ltT (l.map D)).map mkB = z := ⟨_, rfl⟩
    have S1 := Aside0.mk (sort_eq HSB.out (by omega))
    obtain ⟨K1, h1⟩ := rsort_eq l HSB.out (by omega)
    have S2 := Aside0.mk (h1 K1 (Nat.le_refl _))
    have hzl : z.length ≤ 30 := by
      have e : z.length = (sortU ltT (l.map D)).length := by rw [← hz, List.length_map]
      rw [e]
      have := sortU_len (lt := ltT) (l.map D)
      rw [List.length_map] at this; omega
    rw [hz] at S1 S2
    obtain ⟨K2, h2⟩ := same_eq z z (by omega)
    have S3 := Aside0.mk (h2 K2 (Nat.le_refl _))
    rw [decide_eq_true rfl] at S3
    clear h1 h2 hz
    go_enter Tryd.func3, Tryd.ntmps3
    go_wp2_with fail
    refine (tributarylaw03_long.calls K0 _ _ l false w HR0.out HC0 A0.out).mono ?_
    rintro e w' ⟨rfl, ⟨nd, rfl⟩⟩
    have HB0 := Aside0.mk (pw_below_drewN (Below.refl w.heap.size w) nd)
    generalize w.drewN nd = w0 at HB0 ⊢
    go_wp2_with fail
    refine (lent_texts _ _ l w0 (Kd.C_below HR0.out HB0.out) HC0 (by omega)).mono ?_
    rintro e w1 ⟨A1, c1, rfl, hR1, hb1⟩
    have HR1 := Aside0.mk (Kd.R_reads' hR1)
    have HB1 := Aside0.mk (below_step HB0.out hb1)
    clear hR1 hb1
    have HA1 := Aside0.mk (C_head (a := l) (b := tailT) HR1.out.2.2)
    go_wp2_with fail
    refine (path_Sort.calls _ _ l z w1 HA1.out (by omega) S1.out).mono ?_
    rintro e w2 ⟨v2, rfl, hR2, hb2⟩
    have HR2 := Aside0.mk hR2
    have HB2 := Aside0.mk hb2
    obtain ⟨A2, c2, e2⟩ := Kd.R_slice hR2
    subst e2
    clear hR2 hb2
    go_wp2_with fail
    refine (tributaryref03_Sort.calls K1 _ _ l z w2 (Kd.C_below (Kd.C_below HR0.out HB1.out) HB2.out) HC0 S2.out).mono ?_
    rintro e w3 ⟨v3, rfl, hR3, hb3⟩
    have HR3 := Aside0.mk hR3
    have HB3 := Aside0.mk hb3
    obtain ⟨A3, c3, e3⟩ := Kd.R_slice hR3
    subst e3
    clear hR3 hb3
    go_wp2_with fail
    refine (tributarykit_SameTexts.calls K2 _ _ z _ _ z true w3 (Kd.C_below (Kd.R_reads' HR2.out).2.2 HB3.out) (Kd.R_reads' HR2.out).2.1 (Kd.R_reads' HR3.out).2.2 (Kd.R_reads' HR3.out).2.1 S3.out).mono ?_
    rintro e w' ⟨rfl, ⟨nd4, rfl⟩⟩
    have HB4 := Aside0.mk (pw_below_drewN (Below.refl w3.heap.size w3) nd4)
    generalize w3.drewN nd4 = w4 at HB4 ⊢
    have HR4 := Aside0.mk (Kd.R_below (Kd.R_below HR2.out HB3.out) HB4.out)
    have HB5 := Aside0.mk (below_step (below_step HB2.out HB3.out) HB4.out)
    go_wp2_with fail
    refine (over_texts _ z w1.heap.size w1 w4 HR4.out HB5.out).mono ?_
    rintro e w5 ⟨rfl, hb5⟩
    have HB6 := Aside0.mk (below_step HB1.out hb5)
    have HT := Aside0.mk (Kd.C_below HR1.out.2.2 hb5)
    clear hb5
    go_wp2_with fail
    refine (kept_texts _ _ _ l w5 HT.out (Kd.C_below HR0.out HB6.out) HC0 (by omega)).mono ?_
    rintro e w6 ⟨rfl, hb6⟩
    have HB7 := Aside0.mk (below_step HB6.out hb6)
    clear hb6
    go_wp2_with fail
    refine (awake_calls _).mono ?_
    rintro e w7 ⟨rfl, hb7⟩
    go_wp2_with fail
    go_ret
    exact ⟨rfl, below_step HB7.out hb7⟩
end Go.Proofs.YtgijjkdcidhmdaaDoor.Q
