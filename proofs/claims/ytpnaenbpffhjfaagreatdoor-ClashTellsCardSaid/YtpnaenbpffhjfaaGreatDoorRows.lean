/-
  NARROWER THAN 'FOR EVERY INPUT', by the rows' own cells (each row's printed sentence says how): ClashTells: laid · ClashAll: laid · ClashEither: laid · ClashBehind: laid · LedgerScans: laid · LedgerBytes: laid · LedgerBack: laid · LedgerOnce: laid.
  DERIVED. THE GIVEN ROWS OF THIS SEAT. 8 by the template 'for every input the law returns true; each argument reads behind the call as it read before'; 0 by the template 'total and deterministic' (their statements: YtpnaenbpffhjfaaGreatDoorTotals.lean).
  GIVEN WITH THE SEED: the statements are not yours to turn. If you find one false, say at which input.
  Laid BY PROGRAM, IN A SANDBOX (cutbox-rows.mjs): the forced cells as the released guide's own fill.sh prints them over the translation 7dac2d4bc5bfe0bc… (all of the seat's roots in one cut). By AI agents, Wed Nov 11 2026. No macro, syntax, notation, axiom, sorry.
-/
import Derived.Test.YtpnaenbpffhjfaaGreatDoorChecked
import GoSem.PinnedTables
import GoSem.Claim
import GoSem.ClaimJoined
import GoSem.ClaimMapViews
import Derived.JoinedTies
import Derived.KernelRfl
namespace Go.Proofs.YtpnaenbpffhjfaaGreatDoor
/- THE CELL 'sum', in the pinned program and in every row, IS THE sha256 OF THE DUMP (.gsa) THAT YtpnaenbpffhjfaaGreatDoorProg.lean LOADS. Nothing in Lean hashes anything: it is a label: what it is worth is what the hold of that sum in a sandbox is worth. -/
noncomputable def Tryz.pinned : Pinned := { name := "ytpnaenbpffhjfaagreatdoor", sum := "7dac2d4bc5bfe0bcf639169cf6506c3d44af38e11b40c788df3e911550ef7d56", checked := Tryz.checked }
namespace Rows
def none {H : Type} : Left H := { results := [], args := [] }

/- WHAT THE LISTED PACKAGE-LEVEL VARIABLES READ AS WHEN THE CALL BEGINS. Each datum BY PROGRAM (the guide's laid-datum.mjs) off the statement by which the dump's own 'gosem.cut.vars' lays the variable. In a bare row this is a premise. The card (YtpnaenbpffhjfaaGreatDoorCards.lean) ties it to the program's text. -/
def laid_unicode_utf8_acceptRanges {H : Type} : DataW H := .agg [.agg [.lit (.int .u8 128), .lit (.int .u8 191)], .agg [.lit (.int .u8 160), .lit (.int .u8 191)], .agg [.lit (.int .u8 128), .lit (.int .u8 159)], .agg [.lit (.int .u8 144), .lit (.int .u8 191)], .agg [.lit (.int .u8 128), .lit (.int .u8 143)], .agg [.lit (.int .u8 0), .lit (.int .u8 0)], .agg [.lit (.int .u8 0), .lit (.int .u8 0)], .agg [.lit (.int .u8 0), .lit (.int .u8 0)], .agg [.lit (.int .u8 0), .lit (.int .u8 0)], .agg [.lit (.int .u8 0), .lit (.int .u8 0)], .agg [.lit (.int .u8 0), .lit (.int .u8 0)], .agg [.lit (.int .u8 0), .lit (.int .u8 0)], .agg [.lit (.int .u8 0), .lit (.int .u8 0)], .agg [.lit (.int .u8 0), .lit (.int .u8 0)], .agg [.lit (.int .u8 0), .lit (.int .u8 0)], .agg [.lit (.int .u8 0), .lit (.int .u8 0)]]
/-- One of Go's own tables, pinned by name: the form's constant. -/
def laid_unicode_utf8_first : DataW Unit := Go.Pinned.utf8First

/-- 'tributarylaw11.ClashTells': WHATEVER THE INPUT: true; the input reads as it did. -/
def clashTellsSpec : ChangeSpec := { name := "clashTells", fn := fun _ => fun
  | [d1, d2] => { results := [.lit (.bool true)], args := [d1, d2] }
  | _ => none }
def clashTellsRow : OpenClaim := { program := "ytpnaenbpffhjfaagreatdoor", sum := "7dac2d4bc5bfe0bcf639169cf6506c3d44af38e11b40c788df3e911550ef7d56", func := "tributary/tributarylaw11.ClashTells", spec := "clashTells", inPlace := ["internal/bytealg.IndexByteString", "internal/bytealg.IndexString", "internal/bytealg.Compare"], unfollowed := true, recurses := true, named := ["unicode/utf8.first", "unicode/utf8.acceptRanges", "internal/bytealg.MaxLen"], plainKeys := false, apart := false, laid := [("unicode/utf8.acceptRanges", laid_unicode_utf8_acceptRanges), ("unicode/utf8.first", laid_unicode_utf8_first)] }
def ClashTellsSaid : Prop := clashTellsRow.holds Tryz.pinned (OpenSpec.ofChange clashTellsSpec)

/-- ITS FALSE NEIGHBOUR: 'it returns false'. Refute it at one input. -/
def clashTellsWrong : ChangeSpec := { name := "clashTells", fn := fun _ => fun
  | [d1, d2] => { results := [.lit (.bool false)], args := [d1, d2] }
  | _ => none }
def ClashTellsWrongFalsely : Prop := clashTellsRow.holds Tryz.pinned (OpenSpec.ofChange clashTellsWrong)

/-- 'tributarylaw11.ClashAll': WHATEVER THE INPUT: true; the input reads as it did. -/
def clashAllSpec : ChangeSpec := { name := "clashAll", fn := fun _ => fun
  | [d1, d2] => { results := [.lit (.bool true)], args := [d1, d2] }
  | _ => none }
def clashAllRow : OpenClaim := { program := "ytpnaenbpffhjfaagreatdoor", sum := "7dac2d4bc5bfe0bcf639169cf6506c3d44af38e11b40c788df3e911550ef7d56", func := "tributary/tributarylaw11.ClashAll", spec := "clashAll", inPlace := ["internal/bytealg.IndexByteString", "internal/bytealg.IndexString", "internal/bytealg.Compare"], unfollowed := true, recurses := true, named := ["unicode/utf8.first", "unicode/utf8.acceptRanges", "internal/bytealg.MaxLen"], plainKeys := false, apart := false, laid := [("unicode/utf8.acceptRanges", laid_unicode_utf8_acceptRanges), ("unicode/utf8.first", laid_unicode_utf8_first)] }
def ClashAllSaid : Prop := clashAllRow.holds Tryz.pinned (OpenSpec.ofChange clashAllSpec)

/-- ITS FALSE NEIGHBOUR: 'it returns false'. Refute it at one input. -/
def clashAllWrong : ChangeSpec := { name := "clashAll", fn := fun _ => fun
  | [d1, d2] => { results := [.lit (.bool false)], args := [d1, d2] }
  | _ => none }
def ClashAllWrongFalsely : Prop := clashAllRow.holds Tryz.pinned (OpenSpec.ofChange clashAllWrong)

/-- 'tributarylaw11.ClashEither': WHATEVER THE INPUT: true; the input reads as it did. -/
def clashEitherSpec : ChangeSpec := { name := "clashEither", fn := fun _ => fun
  | [d] => { results := [.lit (.bool true)], args := [d] }
  | _ => none }
def clashEitherRow : OpenClaim := { program := "ytpnaenbpffhjfaagreatdoor", sum := "7dac2d4bc5bfe0bcf639169cf6506c3d44af38e11b40c788df3e911550ef7d56", func := "tributary/tributarylaw11.ClashEither", spec := "clashEither", inPlace := ["internal/bytealg.IndexByteString", "internal/bytealg.IndexString", "internal/bytealg.Compare"], unfollowed := true, recurses := true, named := ["unicode/utf8.first", "unicode/utf8.acceptRanges", "internal/bytealg.MaxLen"], plainKeys := false, apart := false, laid := [("unicode/utf8.acceptRanges", laid_unicode_utf8_acceptRanges), ("unicode/utf8.first", laid_unicode_utf8_first)] }
def ClashEitherSaid : Prop := clashEitherRow.holds Tryz.pinned (OpenSpec.ofChange clashEitherSpec)

/-- ITS FALSE NEIGHBOUR: 'it returns false'. Refute it at one input. -/
def clashEitherWrong : ChangeSpec := { name := "clashEither", fn := fun _ => fun
  | [d] => { results := [.lit (.bool false)], args := [d] }
  | _ => none }
def ClashEitherWrongFalsely : Prop := clashEitherRow.holds Tryz.pinned (OpenSpec.ofChange clashEitherWrong)

/-- 'tributarylaw11.ClashBehind': WHATEVER THE INPUT: true; the input reads as it did. -/
def clashBehindSpec : ChangeSpec := { name := "clashBehind", fn := fun _ => fun
  | [d1, d2, d3, d4] => { results := [.lit (.bool true)], args := [d1, d2, d3, d4] }
  | _ => none }
def clashBehindRow : OpenClaim := { program := "ytpnaenbpffhjfaagreatdoor", sum := "7dac2d4bc5bfe0bcf639169cf6506c3d44af38e11b40c788df3e911550ef7d56", func := "tributary/tributarylaw11.ClashBehind", spec := "clashBehind", inPlace := ["internal/bytealg.IndexByteString", "internal/bytealg.IndexString", "internal/bytealg.Compare"], unfollowed := true, recurses := true, named := ["unicode/utf8.first", "unicode/utf8.acceptRanges", "internal/bytealg.MaxLen"], plainKeys := false, apart := false, laid := [("unicode/utf8.acceptRanges", laid_unicode_utf8_acceptRanges), ("unicode/utf8.first", laid_unicode_utf8_first)] }
def ClashBehindSaid : Prop := clashBehindRow.holds Tryz.pinned (OpenSpec.ofChange clashBehindSpec)

/-- ITS FALSE NEIGHBOUR: 'it returns false'. Refute it at one input. -/
def clashBehindWrong : ChangeSpec := { name := "clashBehind", fn := fun _ => fun
  | [d1, d2, d3, d4] => { results := [.lit (.bool false)], args := [d1, d2, d3, d4] }
  | _ => none }
def ClashBehindWrongFalsely : Prop := clashBehindRow.holds Tryz.pinned (OpenSpec.ofChange clashBehindWrong)

/-- 'tributarylaw22.LedgerScans': WHATEVER THE INPUT: true; the input reads as it did. -/
def ledgerScansSpec : ChangeSpec := { name := "ledgerScans", fn := fun _ => fun
  | [d1, d2, d3, d4] => { results := [.lit (.bool true)], args := [d1, d2, d3, d4] }
  | _ => none }
def ledgerScansRow : OpenClaim := { program := "ytpnaenbpffhjfaagreatdoor", sum := "7dac2d4bc5bfe0bcf639169cf6506c3d44af38e11b40c788df3e911550ef7d56", func := "tributary/tributarylaw22.LedgerScans", spec := "ledgerScans", inPlace := ["internal/bytealg.IndexByteString", "internal/bytealg.IndexString", "internal/bytealg.Compare"], unfollowed := true, recurses := true, named := ["unicode/utf8.first", "unicode/utf8.acceptRanges", "internal/bytealg.MaxLen"], plainKeys := false, apart := false, laid := [("unicode/utf8.acceptRanges", laid_unicode_utf8_acceptRanges), ("unicode/utf8.first", laid_unicode_utf8_first)] }
def LedgerScansSaid : Prop := ledgerScansRow.holds Tryz.pinned (OpenSpec.ofChange ledgerScansSpec)

/-- ITS FALSE NEIGHBOUR: 'it returns false'. Refute it at one input. -/
def ledgerScansWrong : ChangeSpec := { name := "ledgerScans", fn := fun _ => fun
  | [d1, d2, d3, d4] => { results := [.lit (.bool false)], args := [d1, d2, d3, d4] }
  | _ => none }
def LedgerScansWrongFalsely : Prop := ledgerScansRow.holds Tryz.pinned (OpenSpec.ofChange ledgerScansWrong)

/-- 'tributarylaw22.LedgerBytes': WHATEVER THE INPUT: true; the input reads as it did. -/
def ledgerBytesSpec : ChangeSpec := { name := "ledgerBytes", fn := fun _ => fun
  | [d1, d2] => { results := [.lit (.bool true)], args := [d1, d2] }
  | _ => none }
def ledgerBytesRow : OpenClaim := { program := "ytpnaenbpffhjfaagreatdoor", sum := "7dac2d4bc5bfe0bcf639169cf6506c3d44af38e11b40c788df3e911550ef7d56", func := "tributary/tributarylaw22.LedgerBytes", spec := "ledgerBytes", inPlace := ["internal/bytealg.IndexByteString", "internal/bytealg.IndexString", "internal/bytealg.Compare"], unfollowed := true, recurses := true, named := ["unicode/utf8.first", "unicode/utf8.acceptRanges", "internal/bytealg.MaxLen"], plainKeys := false, apart := false, laid := [("unicode/utf8.acceptRanges", laid_unicode_utf8_acceptRanges), ("unicode/utf8.first", laid_unicode_utf8_first)] }
def LedgerBytesSaid : Prop := ledgerBytesRow.holds Tryz.pinned (OpenSpec.ofChange ledgerBytesSpec)

/-- ITS FALSE NEIGHBOUR: 'it returns false'. Refute it at one input. -/
def ledgerBytesWrong : ChangeSpec := { name := "ledgerBytes", fn := fun _ => fun
  | [d1, d2] => { results := [.lit (.bool false)], args := [d1, d2] }
  | _ => none }
def LedgerBytesWrongFalsely : Prop := ledgerBytesRow.holds Tryz.pinned (OpenSpec.ofChange ledgerBytesWrong)

/-- 'tributarylaw22.LedgerBack': WHATEVER THE INPUT: true; the input reads as it did. -/
def ledgerBackSpec : ChangeSpec := { name := "ledgerBack", fn := fun _ => fun
  | [d1, d2] => { results := [.lit (.bool true)], args := [d1, d2] }
  | _ => none }
def ledgerBackRow : OpenClaim := { program := "ytpnaenbpffhjfaagreatdoor", sum := "7dac2d4bc5bfe0bcf639169cf6506c3d44af38e11b40c788df3e911550ef7d56", func := "tributary/tributarylaw22.LedgerBack", spec := "ledgerBack", inPlace := ["internal/bytealg.IndexByteString", "internal/bytealg.IndexString", "internal/bytealg.Compare"], unfollowed := true, recurses := true, named := ["unicode/utf8.first", "unicode/utf8.acceptRanges", "internal/bytealg.MaxLen"], plainKeys := false, apart := false, laid := [("unicode/utf8.acceptRanges", laid_unicode_utf8_acceptRanges), ("unicode/utf8.first", laid_unicode_utf8_first)] }
def LedgerBackSaid : Prop := ledgerBackRow.holds Tryz.pinned (OpenSpec.ofChange ledgerBackSpec)

/-- ITS FALSE NEIGHBOUR: 'it returns false'. Refute it at one input. -/
def ledgerBackWrong : ChangeSpec := { name := "ledgerBack", fn := fun _ => fun
  | [d1, d2] => { results := [.lit (.bool false)], args := [d1, d2] }
  | _ => none }
def LedgerBackWrongFalsely : Prop := ledgerBackRow.holds Tryz.pinned (OpenSpec.ofChange ledgerBackWrong)

/-- 'tributarylaw22.LedgerOnce': WHATEVER THE INPUT: true; the input reads as it did. -/
def ledgerOnceSpec : ChangeSpec := { name := "ledgerOnce", fn := fun _ => fun
  | [d1, d2] => { results := [.lit (.bool true)], args := [d1, d2] }
  | _ => none }
def ledgerOnceRow : OpenClaim := { program := "ytpnaenbpffhjfaagreatdoor", sum := "7dac2d4bc5bfe0bcf639169cf6506c3d44af38e11b40c788df3e911550ef7d56", func := "tributary/tributarylaw22.LedgerOnce", spec := "ledgerOnce", inPlace := ["internal/bytealg.IndexByteString", "internal/bytealg.IndexString", "internal/bytealg.Compare"], unfollowed := true, recurses := true, named := ["unicode/utf8.first", "unicode/utf8.acceptRanges", "internal/bytealg.MaxLen"], plainKeys := false, apart := false, laid := [("unicode/utf8.acceptRanges", laid_unicode_utf8_acceptRanges), ("unicode/utf8.first", laid_unicode_utf8_first)] }
def LedgerOnceSaid : Prop := ledgerOnceRow.holds Tryz.pinned (OpenSpec.ofChange ledgerOnceSpec)

/-- ITS FALSE NEIGHBOUR: 'it returns false'. Refute it at one input. -/
def ledgerOnceWrong : ChangeSpec := { name := "ledgerOnce", fn := fun _ => fun
  | [d1, d2] => { results := [.lit (.bool false)], args := [d1, d2] }
  | _ => none }
def LedgerOnceWrongFalsely : Prop := ledgerOnceRow.holds Tryz.pinned (OpenSpec.ofChange ledgerOnceWrong)

/- THE SECOND FORM. 'bulk': how many values and letters a reading holds, each counted each time it is reached (what is shared counts as often as it is met; a slice's spare places count too). A statement '..UptoSaid' is the law's where the arguments, and the package variables that the reading takes, are together of bulk at most 1048576: NARROWER than '..Said'. Prove '..Said' where nothing that the law and all that it calls make is longer than what came in: it says more and counts as full. Else prove '..UptoSaid'. A law counts once. -/
mutual
def uptoBulk {H : Type} : DataW H → Nat
  | .lit (.string bytes) => bytes.length + 1
  | .lit _ => 1
  | .nil => 1
  | .ptr d => uptoBulk d + 1
  | .slice elems spare => uptoBulkAll elems + uptoBulkAll spare + 1
  | .agg parts => uptoBulkAll parts + 1
  | .iface _ d => uptoBulk d + 1
  | .map entries => uptoBulkEntries entries + 1
  | .held _ => 1
def uptoBulkAll {H : Type} : List (DataW H) → Nat
  | [] => 0
  | d :: r => uptoBulk d + uptoBulkAll r
def uptoBulkEntries {H : Type} : List (Lit × DataW H) → Nat
  | [] => 0
  | x :: r => uptoBulkEntry x + uptoBulkEntries r
def uptoBulkEntry {H : Type} : Lit × DataW H → Nat
  | (.string bytes, d) => bytes.length + uptoBulk d + 1
  | (_, d) => uptoBulk d + 1
 end
def uptoSmall : (H : Type) → List (DataW H) → Bool := fun _ ds => decide (uptoBulkAll ds ≤ 1048576)
def OpenSpec.upto (s : _root_.Go.ChangeSpec) : _root_.Go.OpenSpec := { _root_.Go.OpenSpec.ofChange s with cond := some uptoSmall }

/-- 'tributarylaw11.ClashTells', WHERE WHAT IT READS IS OF BULK AT MOST 1048576: true; the input reads as it did. -/
def clashTellsUptoRow : OpenClaim := { program := "ytpnaenbpffhjfaagreatdoor", sum := "7dac2d4bc5bfe0bcf639169cf6506c3d44af38e11b40c788df3e911550ef7d56", func := "tributary/tributarylaw11.ClashTells", spec := "clashTells", inPlace := ["internal/bytealg.IndexByteString", "internal/bytealg.IndexString", "internal/bytealg.Compare"], unfollowed := true, recurses := true, named := ["unicode/utf8.first", "unicode/utf8.acceptRanges", "internal/bytealg.MaxLen"], plainKeys := false, apart := false, laid := [("unicode/utf8.acceptRanges", laid_unicode_utf8_acceptRanges), ("unicode/utf8.first", laid_unicode_utf8_first)], narrowed := true }
def ClashTellsUptoSaid : Prop := clashTellsUptoRow.holds Tryz.pinned (OpenSpec.upto clashTellsSpec)

/-- 'tributarylaw11.ClashAll', WHERE WHAT IT READS IS OF BULK AT MOST 1048576: true; the input reads as it did. -/
def clashAllUptoRow : OpenClaim := { program := "ytpnaenbpffhjfaagreatdoor", sum := "7dac2d4bc5bfe0bcf639169cf6506c3d44af38e11b40c788df3e911550ef7d56", func := "tributary/tributarylaw11.ClashAll", spec := "clashAll", inPlace := ["internal/bytealg.IndexByteString", "internal/bytealg.IndexString", "internal/bytealg.Compare"], unfollowed := true, recurses := true, named := ["unicode/utf8.first", "unicode/utf8.acceptRanges", "internal/bytealg.MaxLen"], plainKeys := false, apart := false, laid := [("unicode/utf8.acceptRanges", laid_unicode_utf8_acceptRanges), ("unicode/utf8.first", laid_unicode_utf8_first)], narrowed := true }
def ClashAllUptoSaid : Prop := clashAllUptoRow.holds Tryz.pinned (OpenSpec.upto clashAllSpec)

/-- 'tributarylaw11.ClashEither', WHERE WHAT IT READS IS OF BULK AT MOST 1048576: true; the input reads as it did. -/
def clashEitherUptoRow : OpenClaim := { program := "ytpnaenbpffhjfaagreatdoor", sum := "7dac2d4bc5bfe0bcf639169cf6506c3d44af38e11b40c788df3e911550ef7d56", func := "tributary/tributarylaw11.ClashEither", spec := "clashEither", inPlace := ["internal/bytealg.IndexByteString", "internal/bytealg.IndexString", "internal/bytealg.Compare"], unfollowed := true, recurses := true, named := ["unicode/utf8.first", "unicode/utf8.acceptRanges", "internal/bytealg.MaxLen"], plainKeys := false, apart := false, laid := [("unicode/utf8.acceptRanges", laid_unicode_utf8_acceptRanges), ("unicode/utf8.first", laid_unicode_utf8_first)], narrowed := true }
def ClashEitherUptoSaid : Prop := clashEitherUptoRow.holds Tryz.pinned (OpenSpec.upto clashEitherSpec)

/-- 'tributarylaw11.ClashBehind', WHERE WHAT IT READS IS OF BULK AT MOST 1048576: true; the input reads as it did. -/
def clashBehindUptoRow : OpenClaim := { program := "ytpnaenbpffhjfaagreatdoor", sum := "7dac2d4bc5bfe0bcf639169cf6506c3d44af38e11b40c788df3e911550ef7d56", func := "tributary/tributarylaw11.ClashBehind", spec := "clashBehind", inPlace := ["internal/bytealg.IndexByteString", "internal/bytealg.IndexString", "internal/bytealg.Compare"], unfollowed := true, recurses := true, named := ["unicode/utf8.first", "unicode/utf8.acceptRanges", "internal/bytealg.MaxLen"], plainKeys := false, apart := false, laid := [("unicode/utf8.acceptRanges", laid_unicode_utf8_acceptRanges), ("unicode/utf8.first", laid_unicode_utf8_first)], narrowed := true }
def ClashBehindUptoSaid : Prop := clashBehindUptoRow.holds Tryz.pinned (OpenSpec.upto clashBehindSpec)

/-- 'tributarylaw22.LedgerScans', WHERE WHAT IT READS IS OF BULK AT MOST 1048576: true; the input reads as it did. -/
def ledgerScansUptoRow : OpenClaim := { program := "ytpnaenbpffhjfaagreatdoor", sum := "7dac2d4bc5bfe0bcf639169cf6506c3d44af38e11b40c788df3e911550ef7d56", func := "tributary/tributarylaw22.LedgerScans", spec := "ledgerScans", inPlace := ["internal/bytealg.IndexByteString", "internal/bytealg.IndexString", "internal/bytealg.Compare"], unfollowed := true, recurses := true, named := ["unicode/utf8.first", "unicode/utf8.acceptRanges", "internal/bytealg.MaxLen"], plainKeys := false, apart := false, laid := [("unicode/utf8.acceptRanges", laid_unicode_utf8_acceptRanges), ("unicode/utf8.first", laid_unicode_utf8_first)], narrowed := true }
def LedgerScansUptoSaid : Prop := ledgerScansUptoRow.holds Tryz.pinned (OpenSpec.upto ledgerScansSpec)

/-- 'tributarylaw22.LedgerBytes', WHERE WHAT IT READS IS OF BULK AT MOST 1048576: true; the input reads as it did. -/
def ledgerBytesUptoRow : OpenClaim := { program := "ytpnaenbpffhjfaagreatdoor", sum := "7dac2d4bc5bfe0bcf639169cf6506c3d44af38e11b40c788df3e911550ef7d56", func := "tributary/tributarylaw22.LedgerBytes", spec := "ledgerBytes", inPlace := ["internal/bytealg.IndexByteString", "internal/bytealg.IndexString", "internal/bytealg.Compare"], unfollowed := true, recurses := true, named := ["unicode/utf8.first", "unicode/utf8.acceptRanges", "internal/bytealg.MaxLen"], plainKeys := false, apart := false, laid := [("unicode/utf8.acceptRanges", laid_unicode_utf8_acceptRanges), ("unicode/utf8.first", laid_unicode_utf8_first)], narrowed := true }
def LedgerBytesUptoSaid : Prop := ledgerBytesUptoRow.holds Tryz.pinned (OpenSpec.upto ledgerBytesSpec)

/-- 'tributarylaw22.LedgerBack', WHERE WHAT IT READS IS OF BULK AT MOST 1048576: true; the input reads as it did. -/
def ledgerBackUptoRow : OpenClaim := { program := "ytpnaenbpffhjfaagreatdoor", sum := "7dac2d4bc5bfe0bcf639169cf6506c3d44af38e11b40c788df3e911550ef7d56", func := "tributary/tributarylaw22.LedgerBack", spec := "ledgerBack", inPlace := ["internal/bytealg.IndexByteString", "internal/bytealg.IndexString", "internal/bytealg.Compare"], unfollowed := true, recurses := true, named := ["unicode/utf8.first", "unicode/utf8.acceptRanges", "internal/bytealg.MaxLen"], plainKeys := false, apart := false, laid := [("unicode/utf8.acceptRanges", laid_unicode_utf8_acceptRanges), ("unicode/utf8.first", laid_unicode_utf8_first)], narrowed := true }
def LedgerBackUptoSaid : Prop := ledgerBackUptoRow.holds Tryz.pinned (OpenSpec.upto ledgerBackSpec)

/-- 'tributarylaw22.LedgerOnce', WHERE WHAT IT READS IS OF BULK AT MOST 1048576: true; the input reads as it did. -/
def ledgerOnceUptoRow : OpenClaim := { program := "ytpnaenbpffhjfaagreatdoor", sum := "7dac2d4bc5bfe0bcf639169cf6506c3d44af38e11b40c788df3e911550ef7d56", func := "tributary/tributarylaw22.LedgerOnce", spec := "ledgerOnce", inPlace := ["internal/bytealg.IndexByteString", "internal/bytealg.IndexString", "internal/bytealg.Compare"], unfollowed := true, recurses := true, named := ["unicode/utf8.first", "unicode/utf8.acceptRanges", "internal/bytealg.MaxLen"], plainKeys := false, apart := false, laid := [("unicode/utf8.acceptRanges", laid_unicode_utf8_acceptRanges), ("unicode/utf8.first", laid_unicode_utf8_first)], narrowed := true }
def LedgerOnceUptoSaid : Prop := ledgerOnceUptoRow.holds Tryz.pinned (OpenSpec.upto ledgerOnceSpec)

end Rows
end Go.Proofs.YtpnaenbpffhjfaaGreatDoor
