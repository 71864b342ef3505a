/- PathParts: the law's walk. -/
import Derived.Test.YtgijjkdcidhmdaaGreatDoorUPathRef
import Derived.Test.YtgijjkdcidhmdaaGreatDoorLentTexts
import Derived.Test.YtgijjkdcidhmdaaGreatDoorKeptTexts
import Derived.Test.YtgijjkdcidhmdaaGreatDoorOverTexts
set_option linter.unusedVariables false
namespace Go.Proofs.YtgijjkdcidhmdaaGreatDoor.Q
open Go.RowKit PX SU Go.Proofs.YtgijjkdcidhmdaaGreatDoorW.PrintWords Go.Proofs.YtgijjkdcidhmdaaGreatDoorW.PrintLast Go.Proofs.YtgijjkdcidhmdaaGreatDoorW.PrintMore

theorem drawn_below {w w' : World} (h : Drawn0 w w') : Below w.heap.size w w' := by obtain ⟨n, rfl⟩ := h; exact pw_below_drewN (Below.refl _ _) _

theorem awake_calls (w : World) : Calls Tryz.prog 43 #[] w fun e w' => e = .returned (.bool true) ∧ Below w.heap.size w w' := by
  obtain ⟨K, hK⟩ := awake_eq
  exact tributarylaw03_awake.calls K true w (hK K (Nat.le_refl _))

set_option maxHeartbeats 8000000 in
set_option maxRecDepth 100000 in
theorem walk_PathParts (s : ByteArray) (a : Option Addr) (c : Nat) (l : List ByteArray) (w : World) (hs0 : s.size ≤ 140737488351232) (h : Go.Proofs.YtgijjkdcidhmdaaGreatDoor.StrsArg w a c l) :
    Calls Tryz.prog 7 #[.string s, .slice a l.length c] w fun e w' => e = .returned (.bool true) ∧ Below w.heap.size w w' := by
  have HR0 := Aside0.mk h.reads
  have HC0 := h.cap
  have HL0 := h.len
  by_cases hz : 200 < s.size
  · have z1 : decide (200 < (s.size : Int)) = true := decide_eq_true (by omega)
    have z2 : decide (200 < s.size) = true := decide_eq_true hz
    go_enter Tryz.func7, Tryz.ntmps7
    go_wp2_with fail
    refine (awake_calls _).mono ?_
    rintro e w1 ⟨rfl, hb⟩
    go_wp2_with fail
    go_ret
    exact ⟨rfl, hb⟩
  have z1 : decide (200 < (s.size : Int)) = false := decide_eq_false (by omega)
  have z2 : decide (200 < s.size) = false := decide_eq_false hz
  have hss : s.size < 4294967281 := by omega
  obtain ⟨K0, h0⟩ := long_eq l (by omega)
  have A0 := Aside0.mk (h0 K0 (Nat.le_refl _))
  clear h0 h
  cases hl : longL l with
  | true =>
    rw [hl] at A0
    clear hl
    go_enter Tryz.func7, Tryz.ntmps7
    go_wp2_with fail
    refine (tributarylaw03_long.calls K0 _ _ l true w HR0.out HC0 A0.out).mono ?_
    rintro e w' ⟨rfl, ⟨nd, rfl⟩⟩
    go_wp2_with fail
    refine (awake_calls _).mono ?_
    rintro e w1 ⟨rfl, hb⟩
    go_wp2_with fail
    go_ret
    exact ⟨rfl, below_step (pw_below_drewN (Below.refl _ _) _) hb⟩
  | false =>
    rw [hl] at A0
    have HS := Aside0.mk (long_no hl).1
    have HLL := (long_no hl).2
    clear hl
    obtain ⟨⟨⟨p, is⟩, ba⟩, b1, b2, ⟨K1, b3⟩, ⟨K2, b4⟩⟩ := parent_base hss
    have P1 := Aside0.mk b1
    have P2 := Aside0.mk b2
    have P3 := Aside0.mk (b3 K1 (Nat.le_refl _))
    have P4 := Aside0.mk (b4 K2 (Nat.le_refl _))
    obtain ⟨K3, s2⟩ := rsplit_eq hss
    have s1 := psplit_eq hss
    obtain ⟨K7, c1⟩ := rcheck_eq hss
    have c2 := check_eq hss
    obtain ⟨⟨z, ez⟩, hzz⟩ : ∃ z : List ByteArray × Int, (if checkL (D s) then (pieces s, (0 : Int)) else ([], 2)) = z := ⟨_, rfl⟩
    obtain ⟨cz, hcz⟩ : ∃ z : Int, (if checkL (D s) then (0 : Int) else 2) = z := ⟨_, rfl⟩
    rw [hzz] at s1 s2
    rw [hcz] at c1 c2
    have S1 := Aside0.mk s1
    have S2 := Aside0.mk (s2 K3 (Nat.le_refl _))
    have C1 := Aside0.mk (c1 K7 (Nat.le_refl _))
    have C2 := Aside0.mk c2
    have hzl : z.length < 9000000000000 := by
      have := pieces_le s hss
      have e : z = (if checkL (D s) then (pieces s, (0 : Int)) else ([], 2)).1 := by rw [hzz]
      rw [e]
      split
      · simp only []; omega
      · simp
    obtain ⟨K4, h4⟩ := same_eq z z hzl
    have S3 := Aside0.mk (h4 K4 (Nat.le_refl _))
    rw [decide_eq_true rfl] at S3
    obtain ⟨K5, j1⟩ := pjoin_eq HS.out (by omega)
    obtain ⟨K6, j2⟩ := rJoin_eq HS.out (by omega)
    obtain ⟨⟨J, ej⟩, hJ⟩ : ∃ z : ByteArray × Int, joinR l = z := ⟨_, rfl⟩
    rw [hJ] at j1 j2
    have J1 := Aside0.mk (j1 K5 (Nat.le_refl _))
    have J2 := Aside0.mk (j2 K6 (Nat.le_refl _))
    clear b1 b2 b3 b4 s1 s2 h4 j1 j2 hJ hzz hcz c1 c2 hzl
    go_enter Tryz.func7, Tryz.ntmps7
    go_wp2_with fail
    refine (tributarylaw03_long.calls K0 _ _ l false w HR0.out HC0 A0.out).mono ?_
    rintro e w' ⟨rfl, ⟨nd, rfl⟩⟩
    have HB0 := Aside0.mk (pw_below_drewN (Below.refl w.heap.size w) nd)
    generalize w.drewN nd = w0 at HB0 ⊢
    go_wp2_with fail
    refine (lent_texts _ _ l w0 (Kd.C_below HR0.out HB0.out) HC0 (by omega)).mono ?_
    rintro e w1 ⟨A1, cc1, rfl, hR1, hb1⟩
    have HR1 := Aside0.mk (Kd.R_reads' hR1)
    have HB1 := Aside0.mk (below_step HB0.out hb1)
    clear hR1 hb1
    go_wp2_with fail
    refine (path_Split.calls s z ez w1 S1.out).mono ?_
    rintro e w2 ⟨v2, rfl, hR2, hb2⟩
    have HR2 := Aside0.mk hR2
    have HB2 := Aside0.mk hb2
    obtain ⟨A2, cc2, e2⟩ := Kd.R_slice hR2
    subst e2
    clear hR2 hb2
    go_wp2_with fail
    refine (tributaryref03_Split.calls K3 s z ez w2 S2.out).mono ?_
    rintro e w3 ⟨v3, rfl, hR3, hb3⟩
    have HR3 := Aside0.mk hR3
    have HB3 := Aside0.mk (below_step HB2.out hb3)
    have HR2' := Aside0.mk (Kd.R_below HR2.out hb3)
    obtain ⟨A3, cc3, e3⟩ := Kd.R_slice hR3
    subst e3
    clear hR3 hb3
    go_wp2_with fail
    refine (path_Join.calls K5 _ _ l J ej w3 (Kd.C_below (C_head (a := l) (b := tailT) HR1.out.2.2) HB3.out) (by omega) J1.out).mono ?_
    rintro e w4 ⟨rfl, hb4⟩
    have HR4 := Aside0.mk (Kd.R_below HR2'.out hb4)
    have HQ4 := Aside0.mk (Kd.R_below HR3.out hb4)
    have HB4 := Aside0.mk (below_step HB3.out hb4)
    clear hb4
    go_wp2_with fail
    refine (tributaryref03_Join.calls K6 _ _ l J ej w4 (Kd.C_below (Kd.C_below HR0.out HB1.out) HB4.out) HC0 J2.out).mono ?_
    rintro e w5 ⟨rfl, hb5⟩
    replace hb5 := drawn_below hb5
    have HR5 := Aside0.mk (Kd.R_below HR4.out hb5)
    have HQ5 := Aside0.mk (Kd.R_below HQ4.out hb5)
    have HB5 := Aside0.mk (below_step HB4.out hb5)
    clear hb5
    go_wp2_with fail
    refine (path_Parent.calls s p is w5 P1.out).mono ?_
    rintro e w6 ⟨rfl, hb6⟩
    have HR6 := Aside0.mk (Kd.R_below HR5.out hb6)
    have HQ6 := Aside0.mk (Kd.R_below HQ5.out hb6)
    have HB6 := Aside0.mk (below_step HB5.out hb6)
    clear hb6
    go_wp2_with fail
    refine (tributaryref03_Parent.calls K1 s p is w6 P3.out).mono ?_
    rintro e w7 ⟨rfl, hb7⟩
    have HR7 := Aside0.mk (Kd.R_below HR6.out hb7)
    have HQ7 := Aside0.mk (Kd.R_below HQ6.out hb7)
    have HB7 := Aside0.mk (below_step HB6.out hb7)
    clear hb7
    go_wp2_with fail
    refine (tributarykit_SameTexts.calls K4 _ _ z _ _ z true w7 (Kd.R_reads' HR7.out).2.2 (Kd.R_reads' HR7.out).2.1 (Kd.R_reads' HQ7.out).2.2 (Kd.R_reads' HQ7.out).2.1 S3.out).mono ?_
    rintro e w' ⟨rfl, ⟨nd8, rfl⟩⟩
    have HB8 := Aside0.mk (pw_below_drewN HB7.out nd8)
    have HR8 := Aside0.mk (Kd.R_below HR7.out (pw_below_drewN (Below.refl w7.heap.size w7) nd8))
    generalize w7.drewN nd8 = w8 at HB8 HR8 ⊢
    go_wp2_with fail
    refine (path_Check.calls s cz w8 C2.out).mono ?_
    rintro e w9 ⟨rfl, hb9⟩
    have HR9 := Aside0.mk (Kd.R_below HR8.out hb9)
    have HB9 := Aside0.mk (below_step HB8.out hb9)
    clear hb9
    go_wp2_with fail
    refine (tributaryref03_Check.calls K7 s cz w9 C1.out).mono ?_
    rintro e w10 ⟨rfl, hb10⟩
    have HR10 := Aside0.mk (Kd.R_below HR9.out hb10)
    have HB10 := Aside0.mk (below_step HB9.out hb10)
    clear hb10
    go_wp2_with fail
    refine (path_Base.calls s ba w10 P2.out).mono ?_
    rintro e w11 ⟨rfl, hb11⟩
    have HR11 := Aside0.mk (Kd.R_below HR10.out hb11)
    have HB11 := Aside0.mk (below_step HB10.out hb11)
    clear hb11
    go_wp2_with fail
    refine (tributaryref03_Base.calls K2 s ba w11 P4.out).mono ?_
    rintro e w12 ⟨rfl, hb12⟩
    have HR12 := Aside0.mk (Kd.R_below HR11.out hb12)
    have HB12 := Aside0.mk (below_step HB11.out hb12)
    clear hb12
    go_wp2_with fail
    refine (over_texts _ z w1.heap.size w1 w12 HR12.out HB12.out).mono ?_
    rintro e w13 ⟨rfl, hb13⟩
    have HB13 := Aside0.mk (below_step HB1.out hb13)
    have HT := Aside0.mk (Kd.C_below HR1.out.2.2 hb13)
    clear hb13
    go_wp2_with fail
    refine (kept_texts _ _ _ l w13 HT.out (Kd.C_below HR0.out HB13.out) HC0 (by omega)).mono ?_
    rintro e w14 ⟨rfl, hb14⟩
    have HB14 := Aside0.mk (below_step HB13.out hb14)
    clear hb14
    go_wp2_with fail
    refine (awake_calls _).mono ?_
    rintro e w15 ⟨rfl, hb15⟩
    go_wp2_with fail
    go_ret
    exact ⟨rfl, below_step HB14.out hb15⟩
end Go.Proofs.YtgijjkdcidhmdaaGreatDoor.Q
