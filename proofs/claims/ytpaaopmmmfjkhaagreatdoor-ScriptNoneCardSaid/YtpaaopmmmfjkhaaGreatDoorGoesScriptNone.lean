/- ScriptNone: the call starts no goroutine, and no function looks at the stood-in packages: closed facts, looked at part by part. No conditions. -/
import Derived.Test.YtpaaopmmmfjkhaaGreatDoorFactsScriptNone
import GoSem.ClaimGoes
import GoSem.ClaimSevenParts
set_option linter.unusedVariables false
set_option maxRecDepth 100000
namespace Go.Proofs.YtpaaopmmmfjkhaaGreatDoor.Facts
open Go
noncomputable def okGo (g : Nat) : Bool := !((P.funcs[g]?).any Func.goes)
def lkBody (Q : Program) (fn : Func) : Bool := match fn.body with | some c => c.looks Q | none => false
theorem looks_of (Q : Program) (n : Nat) (hn : Q.funcs.size = n) (h : ∀ g, g < n → (Q.funcs[g]?).any (lkBody Q) = false) : Q.looks [] = false := by
  unfold Program.looks
  rw [hn]
  refine List.any_eq_false.2 fun g hg => ?_
  have := h g (List.mem_range.1 hg)
  intro hh
  rw [Bool.and_eq_true] at hh
  exact absurd (hh.2.symm.trans this) (by decide)
theorem goesAt_of (Q : Program) (s : String) (f : FuncId) (h : Q.funcNamed s = some f) (hg : Q.goes f = false) : Q.goesAt .entering s = false := by
  unfold Program.goesAt Program.goesFrom
  rw [h]
  simp [hg]
noncomputable def okLk (g : Nat) : Bool := !((P.funcs[g]?).any (lkBody P))
theorem co0 : (List.range' 0 40).all okGo = true := by kernel_rfl
theorem co1 : (List.range' 40 40).all okGo = true := by kernel_rfl
theorem co2 : (List.range' 80 40).all okGo = true := by kernel_rfl
theorem co3 : (List.range' 120 40).all okGo = true := by kernel_rfl
theorem co4 : (List.range' 160 40).all okGo = true := by kernel_rfl
theorem co5 : (List.range' 200 40).all okGo = true := by kernel_rfl
theorem co6 : (List.range' 240 40).all okGo = true := by kernel_rfl
theorem co7 : (List.range' 280 40).all okGo = true := by kernel_rfl
theorem co8 : (List.range' 320 40).all okGo = true := by kernel_rfl
theorem co9 : (List.range' 360 40).all okGo = true := by kernel_rfl
theorem co10 : (List.range' 400 40).all okGo = true := by kernel_rfl
theorem co11 : (List.range' 440 40).all okGo = true := by kernel_rfl
theorem co12 : (List.range' 480 40).all okGo = true := by kernel_rfl
theorem co13 : (List.range' 520 40).all okGo = true := by kernel_rfl
theorem co14 : (List.range' 560 40).all okGo = true := by kernel_rfl
theorem co15 : (List.range' 600 40).all okGo = true := by kernel_rfl
theorem co16 : (List.range' 640 40).all okGo = true := by kernel_rfl
theorem co17 : (List.range' 680 40).all okGo = true := by kernel_rfl
theorem co18 : (List.range' 720 40).all okGo = true := by kernel_rfl
theorem co19 : (List.range' 760 40).all okGo = true := by kernel_rfl
theorem co20 : (List.range' 800 5).all okGo = true := by kernel_rfl
theorem ck0 : (List.range' 0 40).all okLk = true := by kernel_rfl
theorem ck1 : (List.range' 40 40).all okLk = true := by kernel_rfl
theorem ck2 : (List.range' 80 40).all okLk = true := by kernel_rfl
theorem ck3 : (List.range' 120 40).all okLk = true := by kernel_rfl
theorem ck4 : (List.range' 160 40).all okLk = true := by kernel_rfl
theorem ck5 : (List.range' 200 40).all okLk = true := by kernel_rfl
theorem ck6 : (List.range' 240 40).all okLk = true := by kernel_rfl
theorem ck7 : (List.range' 280 40).all okLk = true := by kernel_rfl
theorem ck8 : (List.range' 320 40).all okLk = true := by kernel_rfl
theorem ck9 : (List.range' 360 40).all okLk = true := by kernel_rfl
theorem ck10 : (List.range' 400 40).all okLk = true := by kernel_rfl
theorem ck11 : (List.range' 440 40).all okLk = true := by kernel_rfl
theorem ck12 : (List.range' 480 40).all okLk = true := by kernel_rfl
theorem ck13 : (List.range' 520 40).all okLk = true := by kernel_rfl
theorem ck14 : (List.range' 560 40).all okLk = true := by kernel_rfl
theorem ck15 : (List.range' 600 40).all okLk = true := by kernel_rfl
theorem ck16 : (List.range' 640 40).all okLk = true := by kernel_rfl
theorem ck17 : (List.range' 680 40).all okLk = true := by kernel_rfl
theorem ck18 : (List.range' 720 40).all okLk = true := by kernel_rfl
theorem ck19 : (List.range' 760 40).all okLk = true := by kernel_rfl
theorem ck20 : (List.range' 800 5).all okLk = true := by kernel_rfl
theorem ptGo : ∀ g, g < 805 → okGo g = true := by
  intro g hg
  rcases Nat.lt_or_ge g 40 with h0 | h0
  · exact ch co0 (Nat.zero_le _) h0
  rcases Nat.lt_or_ge g 80 with h1 | h1
  · exact ch co1 h0 h1
  rcases Nat.lt_or_ge g 120 with h2 | h2
  · exact ch co2 h1 h2
  rcases Nat.lt_or_ge g 160 with h3 | h3
  · exact ch co3 h2 h3
  rcases Nat.lt_or_ge g 200 with h4 | h4
  · exact ch co4 h3 h4
  rcases Nat.lt_or_ge g 240 with h5 | h5
  · exact ch co5 h4 h5
  rcases Nat.lt_or_ge g 280 with h6 | h6
  · exact ch co6 h5 h6
  rcases Nat.lt_or_ge g 320 with h7 | h7
  · exact ch co7 h6 h7
  rcases Nat.lt_or_ge g 360 with h8 | h8
  · exact ch co8 h7 h8
  rcases Nat.lt_or_ge g 400 with h9 | h9
  · exact ch co9 h8 h9
  rcases Nat.lt_or_ge g 440 with h10 | h10
  · exact ch co10 h9 h10
  rcases Nat.lt_or_ge g 480 with h11 | h11
  · exact ch co11 h10 h11
  rcases Nat.lt_or_ge g 520 with h12 | h12
  · exact ch co12 h11 h12
  rcases Nat.lt_or_ge g 560 with h13 | h13
  · exact ch co13 h12 h13
  rcases Nat.lt_or_ge g 600 with h14 | h14
  · exact ch co14 h13 h14
  rcases Nat.lt_or_ge g 640 with h15 | h15
  · exact ch co15 h14 h15
  rcases Nat.lt_or_ge g 680 with h16 | h16
  · exact ch co16 h15 h16
  rcases Nat.lt_or_ge g 720 with h17 | h17
  · exact ch co17 h16 h17
  rcases Nat.lt_or_ge g 760 with h18 | h18
  · exact ch co18 h17 h18
  rcases Nat.lt_or_ge g 800 with h19 | h19
  · exact ch co19 h18 h19
  rcases Nat.lt_or_ge g 805 with h20 | h20
  · exact ch co20 h19 h20
  · omega
theorem ptLk : ∀ g, g < 805 → okLk g = true := by
  intro g hg
  rcases Nat.lt_or_ge g 40 with h0 | h0
  · exact ch ck0 (Nat.zero_le _) h0
  rcases Nat.lt_or_ge g 80 with h1 | h1
  · exact ch ck1 h0 h1
  rcases Nat.lt_or_ge g 120 with h2 | h2
  · exact ch ck2 h1 h2
  rcases Nat.lt_or_ge g 160 with h3 | h3
  · exact ch ck3 h2 h3
  rcases Nat.lt_or_ge g 200 with h4 | h4
  · exact ch ck4 h3 h4
  rcases Nat.lt_or_ge g 240 with h5 | h5
  · exact ch ck5 h4 h5
  rcases Nat.lt_or_ge g 280 with h6 | h6
  · exact ch ck6 h5 h6
  rcases Nat.lt_or_ge g 320 with h7 | h7
  · exact ch ck7 h6 h7
  rcases Nat.lt_or_ge g 360 with h8 | h8
  · exact ch ck8 h7 h8
  rcases Nat.lt_or_ge g 400 with h9 | h9
  · exact ch ck9 h8 h9
  rcases Nat.lt_or_ge g 440 with h10 | h10
  · exact ch ck10 h9 h10
  rcases Nat.lt_or_ge g 480 with h11 | h11
  · exact ch ck11 h10 h11
  rcases Nat.lt_or_ge g 520 with h12 | h12
  · exact ch ck12 h11 h12
  rcases Nat.lt_or_ge g 560 with h13 | h13
  · exact ch ck13 h12 h13
  rcases Nat.lt_or_ge g 600 with h14 | h14
  · exact ch ck14 h13 h14
  rcases Nat.lt_or_ge g 640 with h15 | h15
  · exact ch ck15 h14 h15
  rcases Nat.lt_or_ge g 680 with h16 | h16
  · exact ch ck16 h15 h16
  rcases Nat.lt_or_ge g 720 with h17 | h17
  · exact ch ck17 h16 h17
  rcases Nat.lt_or_ge g 760 with h18 | h18
  · exact ch ck18 h17 h18
  rcases Nat.lt_or_ge g 800 with h19 | h19
  · exact ch ck19 h18 h19
  rcases Nat.lt_or_ge g 805 with h20 | h20
  · exact ch ck20 h19 h20
  · omega
theorem goes_no (g : Nat) : (P.funcs[g]?).any Func.goes = false := by
  rcases Nat.lt_or_ge g 805 with h | h
  · have := ptGo g h
    unfold okGo at this
    simpa using this
  · rw [Array.getElem?_eq_none (by rw [sizeF]; exact h)]; rfl
theorem goes_false : P.goes 3 = false := by
  have h1 : ((P.closure 3).any fun g => (P.funcs[g]?).any Func.goes) = false := List.any_eq_false.2 fun g _ => by rw [goes_no g]; simp
  have h2 : P.funcs.any Func.goes = false := by
    rw [← Array.any_toList]
    refine List.any_eq_false.2 fun fn hfn => ?_
    obtain ⟨i, hi, e⟩ := List.getElem_of_mem hfn
    have := goes_no i
    rw [← Array.getElem?_toList, List.getElem?_eq_getElem hi, e] at this
    simpa using this
  unfold Program.goes
  rw [h1, h2]
  simp
theorem named3 : P.funcNamed Rows.scriptNoneRow.func = some 3 := by kernel_rfl
theorem goesBy : false = Rows.scriptNoneRow.goesBy P :=
  (goesAt_of P Rows.scriptNoneRow.func 3 named3 goes_false).symm
theorem looks : false = P.looks [] := by
  refine (looks_of P 805 sizeF fun g hg => ?_).symm
  have := ptLk g hg
  unfold okLk at this
  exact (Bool.not_eq_true' _).mp this
end Go.Proofs.YtpaaopmmmfjkhaaGreatDoor.Facts
