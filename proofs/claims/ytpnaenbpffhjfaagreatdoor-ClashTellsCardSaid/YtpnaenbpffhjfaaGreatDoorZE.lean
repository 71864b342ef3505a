/- All contracts, one behind the other; the arguments of a law. No conditions. -/
import Derived.Test.YtpnaenbpffhjfaaGreatDoorZD
import Derived.Test.YtpnaenbpffhjfaaGreatDoorEy7
set_option linter.unusedVariables false
set_option linter.unusedSimpArgs false
set_option linter.all false
namespace Go.Proofs.YtpnaenbpffhjfaaGreatDoor.Z1
open Go.Proofs.YtpnaenbpffhjfaaGreatDoor.Ev PX
set_option maxHeartbeats 2000000
set_option maxRecDepth 10000
/-! All contracts, one behind the other; the law's function. -/
def ck (s : ByteArray) : Bool := checkL s.data.toList
theorem pathI_ck (s : ByteArray) : pathI refC s = pathI ck s := by unfold pathI ck; rw [refC_eq]
theorem and1 {a b : Bool} (h : (a && b) = true) : a = true := by rw [Bool.and_eq_true] at h; exact h.1
theorem and2 {a b : Bool} (h : (a && b) = true) : b = true := by rw [Bool.and_eq_true] at h; exact h.2
noncomputable def z0 : List (Nat × FzC) := []
section
variable {X : List (Nat × Ext)} (hP : ProgOK Tryz.prog X []) (hx : extT X 200 = some .compare) (h38 : ∀ s, pathS s = true → FnOk Tryz.prog 38 [eS s] (.int .i64 (pathI ck s))) (h12 : FnOk Tryz.prog 12 [] (.bool true))
include hP hx h38 h12
theorem zk0 : ZOk Tryz.prog z0 := zok_nil _
noncomputable def z1 : List (Nat × FzC) := (177, C177) :: z0
theorem zk1 : ZOk Tryz.prog z1 := zok_cons (F1_ok (fun a => ok177 hP (zk0 hP hx h38 h12) rfl a)) (zk0 hP hx h38 h12)
noncomputable def z2 : List (Nat × FzC) := (137, C137) :: z1
theorem zk2 : ZOk Tryz.prog z2 := zok_cons (F2_ok (fun a b => ok137 hP (zk1 hP hx h38 h12) rfl rfl a b)) (zk1 hP hx h38 h12)
noncomputable def z3 : List (Nat × FzC) := (136, C136) :: z2
theorem zk3 : ZOk Tryz.prog z3 := zok_cons (F1p_ok (fun a h => ok136 hP (zk2 hP hx h38 h12) rfl a (of_decide_eq_true h))) (zk2 hP hx h38 h12)
noncomputable def z4 : List (Nat × FzC) := (88, C88) :: z3
theorem zk4 : ZOk Tryz.prog z4 := zok_cons (F2_ok (fun a b => ok88 hP (zk3 hP hx h38 h12) rfl rfl rfl a b)) (zk3 hP hx h38 h12)
noncomputable def z5 : List (Nat × FzC) := (35, C70) :: z4
theorem zk5 : ZOk Tryz.prog z5 := zok_cons (F2_ok (fun a b => by rw [← dotL_eq]; exact ok35 hP (zk4 hP hx h38 h12) rfl rfl a b)) (zk4 hP hx h38 h12)
noncomputable def z6 : List (Nat × FzC) := (110, C110) :: z5
theorem zk6 : ZOk Tryz.prog z6 := zok_cons (F1_ok (fun a => ok110 hP (zk5 hP hx h38 h12) rfl a)) (zk5 hP hx h38 h12)
noncomputable def z7 : List (Nat × FzC) := (111, C110) :: z6
theorem zk7 : ZOk Tryz.prog z7 := zok_cons (F1_ok (fun a => ok111 hP (zk6 hP hx h38 h12) rfl a)) (zk6 hP hx h38 h12)
noncomputable def z8 : List (Nat × FzC) := (70, C70) :: z7
theorem zk8 : ZOk Tryz.prog z8 := zok_cons (F2_ok (fun a b => ok70 hP (zk7 hP hx h38 h12) rfl a b)) (zk7 hP hx h38 h12)
noncomputable def z9 : List (Nat × FzC) := (64, C64) :: z8
theorem zk9 : ZOk Tryz.prog z9 := zok_cons (F1_ok (fun a => ok64 hP (zk8 hP hx h38 h12) rfl a)) (zk8 hP hx h38 h12)
noncomputable def z10 : List (Nat × FzC) := (128, C154) :: z9
theorem zk10 : ZOk Tryz.prog z10 := zok_cons (F1_ok (fun a => ok128 hP (zk9 hP hx h38 h12) rfl a)) (zk9 hP hx h38 h12)
noncomputable def z11 : List (Nat × FzC) := (154, C154) :: z10
theorem zk11 : ZOk Tryz.prog z11 := zok_cons (F1_ok (fun a => ok154 hP (zk10 hP hx h38 h12) rfl rfl a)) (zk10 hP hx h38 h12)
noncomputable def z12 : List (Nat × FzC) := (164, C164) :: z11
theorem zk12 : ZOk Tryz.prog z12 := zok_cons (F2_ok (fun a b => ok164 hP (zk11 hP hx h38 h12) hx rfl rfl a b)) (zk11 hP hx h38 h12)
noncomputable def z13 : List (Nat × FzC) := (126, C126) :: z12
theorem zk13 : ZOk Tryz.prog z13 := zok_cons (F2_ok (fun a b => ok126 hP (zk12 hP hx h38 h12) rfl rfl rfl rfl a b)) (zk12 hP hx h38 h12)
noncomputable def z14 : List (Nat × FzC) := (71, C71s) :: z13
theorem zk14 : ZOk Tryz.prog z14 := zok_cons (F2_ok (fun a b => by rw [← effO_0]; exact ok71 hP (zk13 hP hx h38 h12) rfl rfl a b)) (zk13 hP hx h38 h12)
noncomputable def z15 : List (Nat × FzC) := (75, C71s) :: z14
theorem zk15 : ZOk Tryz.prog z15 := zok_cons (F2_ok (fun a b => ok75 hP (zk14 hP hx h38 h12) rfl a b)) (zk14 hP hx h38 h12)
noncomputable def z16 : List (Nat × FzC) := (112, C112) :: z15
theorem zk16 : ZOk Tryz.prog z16 := zok_cons (F1p_ok (fun a h => ok112 hP (zk15 hP hx h38 h12) rfl a (of_decide_eq_true h))) (zk15 hP hx h38 h12)
noncomputable def z17 : List (Nat × FzC) := (69, C69) :: z16
theorem zk17 : ZOk Tryz.prog z17 := zok_cons (F1p_ok (fun a h => ok69 hP (zk16 hP hx h38 h12) rfl a (of_decide_eq_true h))) (zk16 hP hx h38 h12)
noncomputable def z18 : List (Nat × FzC) := (59, C59) :: z17
theorem zk18 : ZOk Tryz.prog z18 := zok_cons (F2_ok (fun a b => ok59 hP (zk17 hP hx h38 h12) rfl a b)) (zk17 hP hx h38 h12)
noncomputable def z19 : List (Nat × FzC) := (77, C77) :: z18
theorem zk19 : ZOk Tryz.prog z19 := zok_cons (F2_ok (fun a b => ok77 hP (zk18 hP hx h38 h12) rfl rfl a b)) (zk18 hP hx h38 h12)
noncomputable def z20 : List (Nat × FzC) := (68, C68) :: z19
theorem zk20 : ZOk Tryz.prog z20 := zok_cons (F1p_ok (fun a h => ok68 hP (zk19 hP hx h38 h12) rfl rfl a (of_decide_eq_true h))) (zk19 hP hx h38 h12)
noncomputable def z21 : List (Nat × FzC) := (13, C13) :: z20
theorem zk21 : ZOk Tryz.prog z21 := zok_cons (F1p_ok (fun a h => ok13 hP (zk20 hP hx h38 h12) rfl rfl rfl a h)) (zk20 hP hx h38 h12)
noncomputable def z22 : List (Nat × FzC) := (78, C78) :: z21
theorem zk22 : ZOk Tryz.prog z22 := zok_cons (F2p_ok (fun a b h => ok78 hP (zk21 hP hx h38 h12) rfl a b (of_decide_eq_true h))) (zk21 hP hx h38 h12)
noncomputable def z23 : List (Nat × FzC) := (18, C18) :: z22
theorem zk23 : ZOk Tryz.prog z23 := zok_cons (F2p_ok (fun a b h => ok18 hP (zk22 hP hx h38 h12) rfl rfl rfl a b h)) (zk22 hP hx h38 h12)
noncomputable def z24 : List (Nat × FzC) := (11, C11) :: z23
theorem zk24 : ZOk Tryz.prog z24 := zok_cons (F2p_ok (fun a b h => ok11 hP (zk23 hP hx h38 h12) rfl rfl a b (of_decide_eq_true h))) (zk23 hP hx h38 h12)
noncomputable def z25 : List (Nat × FzC) := (180, C180) :: z24
theorem zk25 : ZOk Tryz.prog z25 := zok_cons (F2_ok (fun a b => ok180 hP (zk24 hP hx h38 h12) rfl a b)) (zk24 hP hx h38 h12)
noncomputable def z26 : List (Nat × FzC) := (142, C180) :: z25
theorem zk26 : ZOk Tryz.prog z26 := zok_cons (F2_ok (fun a b => ok142 hP (zk25 hP hx h38 h12) rfl rfl a b)) (zk25 hP hx h38 h12)
noncomputable def z27 : List (Nat × FzC) := (179, C179) :: z26
theorem zk27 : ZOk Tryz.prog z27 := zok_cons (F2_ok (fun a b => ok179 hP (zk26 hP hx h38 h12) rfl rfl a b)) (zk26 hP hx h38 h12)
noncomputable def z28 : List (Nat × FzC) := (141, C179) :: z27
theorem zk28 : ZOk Tryz.prog z28 := zok_cons (F2_ok (fun a b => ok141 hP (zk27 hP hx h38 h12) rfl rfl a b)) (zk27 hP hx h38 h12)
noncomputable def z29 : List (Nat × FzC) := (166, C166) :: z28
theorem zk29 : ZOk Tryz.prog z29 := zok_cons (F1p_ok (fun a h => ok166 hP (zk28 hP hx h38 h12) rfl a h)) (zk28 hP hx h38 h12)
noncomputable def z30 : List (Nat × FzC) := (165, C165) :: z29
theorem zk30 : ZOk Tryz.prog z30 := zok_cons (F1p_ok (fun a h => ok165 hP (zk29 hP hx h38 h12) rfl a h)) (zk29 hP hx h38 h12)
noncomputable def z31 : List (Nat × FzC) := (127, (C38 ck)) :: z30
theorem zk31 : ZOk Tryz.prog z31 := zok_cons (F1p_ok (fun a h => by have := ok127 hP (zk30 hP hx h38 h12) rfl rfl rfl a h; rw [pathI_ck] at this; exact this)) (zk30 hP hx h38 h12)
noncomputable def z32 : List (Nat × FzC) := (38, (C38 ck)) :: z31
theorem zk32 : ZOk Tryz.prog z32 := zok_cons (F1p_ok (fun a h => h38 a h)) (zk31 hP hx h38 h12)
noncomputable def z33 : List (Nat × FzC) := (86, (C86 ck)) :: z32
theorem zk33 : ZOk Tryz.prog z33 := zok_cons (F2p_ok (fun a b h => ok86 ck hP (zk32 hP hx h38 h12) rfl rfl rfl rfl a b (and1 h) (and2 h))) (zk32 hP hx h38 h12)
noncomputable def z34 : List (Nat × FzC) := (132, (C86 ck)) :: z33
theorem zk34 : ZOk Tryz.prog z34 := zok_cons (F2p_ok (fun a b h => ok132 ck hP (zk33 hP hx h38 h12) rfl rfl a b (and1 h) (and2 h))) (zk33 hP hx h38 h12)
noncomputable def z35 : List (Nat × FzC) := (143, C143) :: z34
theorem zk35 : ZOk Tryz.prog z35 := zok_cons (F1_ok (fun a => ok143 hP (zk34 hP hx h38 h12) rfl a)) (zk34 hP hx h38 h12)
noncomputable def z36 : List (Nat × FzC) := (129, C143) :: z35
theorem zk36 : ZOk Tryz.prog z36 := zok_cons (F1_ok (fun a => ok129 hP (zk35 hP hx h38 h12) rfl a)) (zk35 hP hx h38 h12)
noncomputable def z37 : List (Nat × FzC) := (145, C145) :: z36
theorem zk37 : ZOk Tryz.prog z37 := zok_cons (F2_ok (fun a b => ok145 hP (zk36 hP hx h38 h12) rfl a b)) (zk36 hP hx h38 h12)
noncomputable def z38 : List (Nat × FzC) := (181, C181) :: z37
theorem zk38 : ZOk Tryz.prog z38 := zok_cons (F2p_ok (fun a b h => ok181 hP (zk37 hP hx h38 h12) rfl rfl a b (of_decide_eq_true h))) (zk37 hP hx h38 h12)
noncomputable def z39 : List (Nat × FzC) := (144, C144) :: z38
theorem zk39 : ZOk Tryz.prog z39 := zok_cons (F2p_ok (fun a b h => ok144 hP (zk38 hP hx h38 h12) rfl rfl a b (of_decide_eq_true h))) (zk38 hP hx h38 h12)
noncomputable def z40 : List (Nat × FzC) := (87, C87) :: z39
theorem zk40 : ZOk Tryz.prog z40 := zok_cons (F2p_ok (fun a b h => ok87 hP (zk39 hP hx h38 h12) rfl rfl rfl a b (of_decide_eq_true h))) (zk39 hP hx h38 h12)
noncomputable def z41 : List (Nat × FzC) := (131, C87) :: z40
theorem zk41 : ZOk Tryz.prog z41 := zok_cons (F2p_ok (fun a b h => ok131 hP (zk40 hP hx h38 h12) rfl rfl a b (of_decide_eq_true h))) (zk40 hP hx h38 h12)
noncomputable def z42 : List (Nat × FzC) := (199, C199) :: z41
theorem zk42 : ZOk Tryz.prog z42 := zok_cons (F3_ok (fun a b c => ok199 hP (zk41 hP hx h38 h12) rfl a b c)) (zk41 hP hx h38 h12)
noncomputable def z43 : List (Nat × FzC) := (198, C198) :: z42
theorem zk43 : ZOk Tryz.prog z43 := zok_cons (F2p_ok (fun a b h => ok198 hP (zk42 hP hx h38 h12) rfl rfl rfl a b (of_decide_eq_true h))) (zk42 hP hx h38 h12)
noncomputable def z44 : List (Nat × FzC) := (155, C155) :: z43
theorem zk44 : ZOk Tryz.prog z44 := zok_cons (F2p_ok (fun a b h => ok155 hP (zk43 hP hx h38 h12) rfl rfl a b (of_decide_eq_true h))) (zk43 hP hx h38 h12)
noncomputable def z45 : List (Nat × FzC) := (130, C155) :: z44
theorem zk45 : ZOk Tryz.prog z45 := zok_cons (F2p_ok (fun a b h => ok130 hP (zk44 hP hx h38 h12) rfl rfl a b (of_decide_eq_true h))) (zk44 hP hx h38 h12)
noncomputable def z46 : List (Nat × FzC) := (94, C94) :: z45
theorem zk46 : ZOk Tryz.prog z46 := zok_cons (F1_ok (fun a => ok94 hP (zk45 hP hx h38 h12) rfl rfl a)) (zk45 hP hx h38 h12)
noncomputable def z47 : List (Nat × FzC) := (95, (C95 ck)) :: z46
theorem zk47 : ZOk Tryz.prog z47 := zok_cons (F1p_ok (fun a h => ok95 ck hP (zk46 hP hx h38 h12) rfl rfl a h)) (zk46 hP hx h38 h12)
noncomputable def z48 : List (Nat × FzC) := (96, C96) :: z47
theorem zk48 : ZOk Tryz.prog z48 := zok_cons (F1_ok (fun a => ok96 hP (zk47 hP hx h38 h12) rfl rfl a)) (zk47 hP hx h38 h12)
noncomputable def z49 : List (Nat × FzC) := (97, C97) :: z48
theorem zk49 : ZOk Tryz.prog z49 := zok_cons (F1_ok (fun a => ok97 hP (zk48 hP hx h38 h12) rfl rfl a)) (zk48 hP hx h38 h12)
noncomputable def z50 : List (Nat × FzC) := (98, C98) :: z49
theorem zk50 : ZOk Tryz.prog z50 := zok_cons (F1p_ok (fun a h => ok98 hP (zk49 hP hx h38 h12) rfl rfl a h)) (zk49 hP hx h38 h12)
noncomputable def z51 : List (Nat × FzC) := (42, (C42 ck)) :: z50
theorem zk51 : ZOk Tryz.prog z51 := zok_cons (F1p_ok (fun a h => ok42 ck hP (zk50 hP hx h38 h12) rfl rfl rfl rfl rfl rfl a h)) (zk50 hP hx h38 h12)
noncomputable def z52 : List (Nat × FzC) := (73, (C42 ck)) :: z51
theorem zk52 : ZOk Tryz.prog z52 := zok_cons (F1p_ok (fun a h => ok73 ck hP (zk51 hP hx h38 h12) rfl rfl rfl rfl rfl rfl a h)) (zk51 hP hx h38 h12)
noncomputable def z53 : List (Nat × FzC) := (33, (C33 ck)) :: z52
theorem zk53 : ZOk Tryz.prog z53 := zok_cons (F2p_ok (fun a b h => ok33 ck hP (zk52 hP hx h38 h12) rfl rfl rfl a b (and1 h) (and2 h))) (zk52 hP hx h38 h12)
noncomputable def z54 : List (Nat × FzC) := (74, (C33 ck)) :: z53
theorem zk54 : ZOk Tryz.prog z54 := zok_cons (F2p_ok (fun a b h => ok74 ck hP (zk53 hP hx h38 h12) rfl rfl rfl a b (and1 h) (and2 h))) (zk53 hP hx h38 h12)
noncomputable def z55 : List (Nat × FzC) := (72, (C72 ck)) :: z54
theorem zk55 : ZOk Tryz.prog z55 := zok_cons (F2p_ok (fun a b h => ok72 ck hP (zk54 hP hx h38 h12) rfl rfl a b (and1 h) (and2 h))) (zk54 hP hx h38 h12)
noncomputable def z56 : List (Nat × FzC) := (76, (C72 ck)) :: z55
theorem zk56 : ZOk Tryz.prog z56 := zok_cons (F2p_ok (fun a b h => ok76 ck hP (zk55 hP hx h38 h12) rfl rfl a b (and1 h) (and2 h))) (zk55 hP hx h38 h12)
noncomputable def z57 : List (Nat × FzC) := (16, (C16 ck)) :: z56
theorem zk57 : ZOk Tryz.prog z57 := zok_cons (F2p_ok (fun a b h => ok16 ck hP (zk56 hP hx h38 h12) rfl rfl rfl rfl rfl a b (and1 h) (and2 h))) (zk56 hP hx h38 h12)
noncomputable def z58 : List (Nat × FzC) := (17, (C16 ck)) :: z57
theorem zk58 : ZOk Tryz.prog z58 := zok_cons (F2p_ok (fun a b h => ok17 ck hP (zk57 hP hx h38 h12) rfl rfl rfl rfl rfl a b (and1 h) (and2 h))) (zk57 hP hx h38 h12)
noncomputable def z59 : List (Nat × FzC) := (14, (C14 ck)) :: z58
theorem zk59 : ZOk Tryz.prog z59 := zok_cons (F2p_ok (fun a b h => ok14 ck hP (zk58 hP hx h38 h12) rfl rfl rfl a b (and1 h) (and2 h))) (zk58 hP hx h38 h12)
noncomputable def z60 : List (Nat × FzC) := (15, (C14 ck)) :: z59
theorem zk60 : ZOk Tryz.prog z60 := zok_cons (F2p_ok (fun a b h => ok15 ck hP (zk59 hP hx h38 h12) rfl rfl rfl a b (and1 h) (and2 h))) (zk59 hP hx h38 h12)
noncomputable def z61 : List (Nat × FzC) := (12, C12) :: z60
theorem zk61 : ZOk Tryz.prog z61 := zok_cons (fun us u hu => by
  cases us with
  | nil => cases hu; exact h12
  | cons _ _ => cases hu) (zk60 hP hx h38 h12)
theorem tells (a b : Evn) : FnOk Tryz.prog 3 [eEvn a, eEvn b] (.bool true) := ok3 ck hP (zk61 hP hx h38 h12) rfl rfl rfl rfl rfl rfl rfl rfl rfl a b
end
end Go.Proofs.YtpnaenbpffhjfaaGreatDoor.Z1

namespace Go.Proofs.YtpnaenbpffhjfaaGreatDoor.Z1
open Go.Proofs.YtpnaenbpffhjfaaGreatDoor.Ev
set_option maxRecDepth 10000
/-! The law's arguments -/
section
variable {H : Type} {enc : TypeId × Value → H} {w : World} {base : Nat} {spare : Nat → Bool} {held : Bool}
theorem rdI : Rd enc Tryz.prog w base spare held 3 1 (fun us => ∃ i, us = [.int .i64 i]) := Rd_int un3
theorem rdS : Rd enc Tryz.prog w base spare held 9 1 (fun us => ∃ s, us = [.string s]) := Rd_str (by kernel_rfl)
theorem rdDot : Rd enc Tryz.prog w base spare held 23 2 (fun us => ∃ d : Dot, us = [.int .i64 d.n, .int .i64 d.s]) :=
  (Rd_struct [(3, 1, fun us => ∃ i, us = [.int .i64 i]), (3, 1, fun us => ∃ i, us = [.int .i64 i])] (by kernel_rfl) (by
    intro p hp
    simp only [List.mem_cons, List.not_mem_nil, or_false] at hp
    rcases hp with rfl | rfl <;> exact ⟨rdI, by kernel_rfl⟩)).mono fun us h => by
      obtain ⟨a, b, rfl, ⟨n, rfl⟩, ⟨s, rfl⟩⟩ := parts2 h
      exact ⟨⟨n, s⟩, rfl⟩
theorem rdSpan : Rd enc Tryz.prog w base spare held 112 3 (fun us => ∃ d : Span, us = [.int .i64 d.n, .int .i64 d.f, .int .i64 d.t]) :=
  (Rd_struct [(3, 1, fun us => ∃ i, us = [.int .i64 i]), (3, 1, fun us => ∃ i, us = [.int .i64 i]), (3, 1, fun us => ∃ i, us = [.int .i64 i])] (by kernel_rfl) (by
    intro p hp
    simp only [List.mem_cons, List.not_mem_nil, or_false] at hp
    rcases hp with rfl | rfl | rfl <;> exact ⟨rdI, by kernel_rfl⟩)).mono fun us h => by
      obtain ⟨a, b, c, rfl, ⟨n, rfl⟩, ⟨s, rfl⟩, ⟨t, rfl⟩⟩ := parts3 h
      exact ⟨⟨n, s, t⟩, rfl⟩
theorem rdSpans : Rd enc Tryz.prog w base spare held 27 1 (fun us => ∃ l : List Span, us = [fz (l.map eSpan)]) :=
  (Rd_sliceQ (k := 3) (e := 112) (fun us => .agg ⟨us⟩) (fun us _ _ => rfl) (by kernel_rfl) (by kernel_rfl) (by decide) rdSpan).mono fun us h => by
    obtain ⟨rows, rfl, hr⟩ := h
    obtain ⟨l, rfl⟩ := rows_data hr
    exact ⟨l, by rw [List.map_map]; rfl⟩
theorem rdU8 : Rd enc Tryz.prog w base spare held 5 1 (fun us => ∃ b : UInt8, us = [eU8 b]) := Rd_u8 (by kernel_rfl)
theorem rdBytes : Rd enc Tryz.prog w base spare held 24 1 (fun us => ∃ l : List UInt8, us = [fz (l.map eU8)]) :=
  (Rd_sliceQ (k := 1) (e := 5) (fun us => us.headD .nilFunc) (fun us h _ => by obtain ⟨b, rfl⟩ := h; rfl) (by kernel_rfl) (by kernel_rfl) (by decide) rdU8).mono fun us h => by
    obtain ⟨rows, rfl, hr⟩ := h
    obtain ⟨l, rfl⟩ := rows_data hr
    exact ⟨l, by rw [List.map_map]; rfl⟩
theorem rdEff : Rd enc Tryz.prog w base spare held 26 3 (fun us => ∃ e : Eff, us = [.int .i64 e.k, .int .i64 e.m, fz (e.b.map eU8)]) :=
  (Rd_struct [(3, 1, fun us => ∃ i, us = [.int .i64 i]), (3, 1, fun us => ∃ i, us = [.int .i64 i]), (24, 1, fun us => ∃ l : List UInt8, us = [fz (l.map eU8)])] (by kernel_rfl) (by
    intro p hp
    simp only [List.mem_cons, List.not_mem_nil, or_false] at hp
    rcases hp with rfl | rfl | rfl
    · exact ⟨rdI, by kernel_rfl⟩
    · exact ⟨rdI, by kernel_rfl⟩
    · exact ⟨rdBytes, by kernel_rfl⟩)).mono fun us h => by
      obtain ⟨a, b, c, rfl, ⟨n, rfl⟩, ⟨s, rfl⟩, ⟨t, rfl⟩⟩ := parts3 h
      exact ⟨⟨n, s, t⟩, rfl⟩
theorem rdEvn : Rd enc Tryz.prog w base spare held 29 7 (fun us => ∃ v : Evn, us = cE v) :=
  (Rd_struct [(23, 2, fun us => ∃ d : Dot, us = [.int .i64 d.n, .int .i64 d.s]), (9, 1, fun us => ∃ s, us = [.string s]), (26, 3, fun us => ∃ e : Eff, us = [.int .i64 e.k, .int .i64 e.m, fz (e.b.map eU8)]), (27, 1, fun us => ∃ l : List Span, us = [fz (l.map eSpan)])] (by kernel_rfl) (by
    intro p hp
    simp only [List.mem_cons, List.not_mem_nil, or_false] at hp
    rcases hp with rfl | rfl | rfl | rfl
    · exact ⟨rdDot, by kernel_rfl⟩
    · exact ⟨rdS, by kernel_rfl⟩
    · exact ⟨rdEff, by kernel_rfl⟩
    · exact ⟨rdSpans, by kernel_rfl⟩)).mono fun us h => by
      obtain ⟨a, b, c, d, rfl, ⟨x, rfl⟩, ⟨s, rfl⟩, ⟨e, rfl⟩, ⟨l, rfl⟩⟩ := parts4 h
      exact ⟨⟨x, s, e, l⟩, rfl⟩
theorem arg_evn {r : Reach} {b : Nat} {v : Value} (ho : Value.okWide Tryz.prog w r b 29 v) {d : DataW H} {p : List MemPlace} (hk : DataW.Trod enc Tryz.prog w base spare held 29 v d p) : ∃ a : Evn, FR (RW w) (eEvn a) v := by
  obtain ⟨fs, hfs⟩ := isFs_some (show isFs (Tryz.prog.underlying 29) [(23, 0), (9, 2), (26, 3), (27, 6)] = true by kernel_rfl)
  have hz : Tryz.prog.cellsOf 29 = 7 := by kernel_rfl
  obtain ⟨us, h1, a, h2⟩ := arg_struct hfs hz rdEvn ho hk
  rw [h2, ← eEvn_cE] at h1
  exact ⟨a, h1⟩
end
end Go.Proofs.YtpnaenbpffhjfaaGreatDoor.Z1

