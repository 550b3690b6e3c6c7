/-
  NARROWER THAN 'FOR EVERY INPUT', by the rows' own cells (each row's printed sentence says how): FnExactFanIn: laid · FnExactFanOut: laid · FnExactRestoreLinks: laid · FnExactLoopPath: laid · FnExactLoopsOf: laid · FnExactLoopReport: laid · FnExactBreakLoops: laid.
  DERIVED. THE GIVEN ROWS OF THIS SEAT. 7 by the template 'for every input the law returns true; each argument reads behind the call as it read before'; 0 by the template 'total and deterministic' (their statements: YthobjlocnkienaaGreatDoorTotals.lean).
  GIVEN WITH THE SEED: the statements are not yours to turn. If you find one false, say at which input.
  Laid BY PROGRAM, IN A SANDBOX (cutbox-rows.mjs): the forced cells as the released guide's own fill.sh prints them over the translation f05da413a20ce940… (all of the seat's roots in one cut). By AI agents, Wed Nov 11 2026. No macro, syntax, notation, axiom, sorry.
-/
import Derived.Test.YthobjlocnkienaaGreatDoorChecked
import GoSem.PinnedTables
import GoSem.Claim
import GoSem.ClaimJoined
import GoSem.ClaimMapViews
import Derived.JoinedTies
import Derived.KernelRfl
namespace Go.Proofs.YthobjlocnkienaaGreatDoor
/- THE CELL 'sum', in the pinned program and in every row, IS THE sha256 OF THE DUMP (.gsa) THAT YthobjlocnkienaaGreatDoorProg.lean LOADS. Nothing in Lean hashes anything: it is a label: what it is worth is what the hold of that sum in a sandbox is worth. -/
noncomputable def Tryz.pinned : Pinned := { name := "ythobjlocnkienaagreatdoor", sum := "f05da413a20ce940747385fa50405f505ceb850ecebb200261fa4cf2d4bb6a3c", checked := Tryz.checked }
namespace Rows
def none {H : Type} : Left H := { results := [], args := [] }

/- WHAT THE LISTED PACKAGE-LEVEL VARIABLES READ AS WHEN THE CALL BEGINS. Each datum BY PROGRAM (the guide's laid-datum.mjs) off the statement by which the dump's own 'gosem.cut.vars' lays the variable. In a bare row this is a premise. The card (YthobjlocnkienaaGreatDoorCards.lean) ties it to the program's text. -/
def laid_unicode_utf8_acceptRanges {H : Type} : DataW H := .agg [.agg [.lit (.int .u8 128), .lit (.int .u8 191)], .agg [.lit (.int .u8 160), .lit (.int .u8 191)], .agg [.lit (.int .u8 128), .lit (.int .u8 159)], .agg [.lit (.int .u8 144), .lit (.int .u8 191)], .agg [.lit (.int .u8 128), .lit (.int .u8 143)], .agg [.lit (.int .u8 0), .lit (.int .u8 0)], .agg [.lit (.int .u8 0), .lit (.int .u8 0)], .agg [.lit (.int .u8 0), .lit (.int .u8 0)], .agg [.lit (.int .u8 0), .lit (.int .u8 0)], .agg [.lit (.int .u8 0), .lit (.int .u8 0)], .agg [.lit (.int .u8 0), .lit (.int .u8 0)], .agg [.lit (.int .u8 0), .lit (.int .u8 0)], .agg [.lit (.int .u8 0), .lit (.int .u8 0)], .agg [.lit (.int .u8 0), .lit (.int .u8 0)], .agg [.lit (.int .u8 0), .lit (.int .u8 0)], .agg [.lit (.int .u8 0), .lit (.int .u8 0)]]
/-- One of Go's own tables, pinned by name: the form's constant. -/
def laid_unicode_utf8_first : DataW Unit := Go.Pinned.utf8First

/-- 'laws.FnExactFanIn': WHATEVER THE INPUT: true; the input reads as it did. -/
def fnExactFanInSpec : ChangeSpec := { name := "fnExactFanIn", fn := fun _ => fun
  | [d1, d2, d3] => { results := [.lit (.bool true)], args := [d1, d2, d3] }
  | _ => none }
def fnExactFanInRow : OpenClaim := { program := "ythobjlocnkienaagreatdoor", sum := "f05da413a20ce940747385fa50405f505ceb850ecebb200261fa4cf2d4bb6a3c", func := "loop.example/g00861/laws.FnExactFanIn", spec := "fnExactFanIn", inPlace := ["internal/bytealg.IndexByteString", "internal/bytealg.IndexString"], unfollowed := true, recurses := true, named := ["unicode/utf8.first", "unicode/utf8.acceptRanges", "internal/bytealg.MaxLen"], apart := false, laid := [("unicode/utf8.acceptRanges", laid_unicode_utf8_acceptRanges), ("unicode/utf8.first", laid_unicode_utf8_first)] }
def FnExactFanInSaid : Prop := fnExactFanInRow.holds Tryz.pinned (OpenSpec.ofChange fnExactFanInSpec)

/-- ITS FALSE NEIGHBOUR: 'it returns false'. Refute it at one input. -/
def fnExactFanInWrong : ChangeSpec := { name := "fnExactFanIn", fn := fun _ => fun
  | [d1, d2, d3] => { results := [.lit (.bool false)], args := [d1, d2, d3] }
  | _ => none }
def FnExactFanInWrongFalsely : Prop := fnExactFanInRow.holds Tryz.pinned (OpenSpec.ofChange fnExactFanInWrong)

/-- 'laws.FnExactFanOut': WHATEVER THE INPUT: true; the input reads as it did. -/
def fnExactFanOutSpec : ChangeSpec := { name := "fnExactFanOut", fn := fun _ => fun
  | [d1, d2, d3] => { results := [.lit (.bool true)], args := [d1, d2, d3] }
  | _ => none }
def fnExactFanOutRow : OpenClaim := { program := "ythobjlocnkienaagreatdoor", sum := "f05da413a20ce940747385fa50405f505ceb850ecebb200261fa4cf2d4bb6a3c", func := "loop.example/g00861/laws.FnExactFanOut", spec := "fnExactFanOut", inPlace := ["internal/bytealg.IndexByteString", "internal/bytealg.IndexString"], unfollowed := true, recurses := true, named := ["unicode/utf8.first", "unicode/utf8.acceptRanges", "internal/bytealg.MaxLen"], apart := false, laid := [("unicode/utf8.acceptRanges", laid_unicode_utf8_acceptRanges), ("unicode/utf8.first", laid_unicode_utf8_first)] }
def FnExactFanOutSaid : Prop := fnExactFanOutRow.holds Tryz.pinned (OpenSpec.ofChange fnExactFanOutSpec)

/-- ITS FALSE NEIGHBOUR: 'it returns false'. Refute it at one input. -/
def fnExactFanOutWrong : ChangeSpec := { name := "fnExactFanOut", fn := fun _ => fun
  | [d1, d2, d3] => { results := [.lit (.bool false)], args := [d1, d2, d3] }
  | _ => none }
def FnExactFanOutWrongFalsely : Prop := fnExactFanOutRow.holds Tryz.pinned (OpenSpec.ofChange fnExactFanOutWrong)

/-- 'laws.FnExactRestoreLinks': WHATEVER THE INPUT: true; the input reads as it did. -/
def fnExactRestoreLinksSpec : ChangeSpec := { name := "fnExactRestoreLinks", fn := fun _ => fun
  | [d1, d2] => { results := [.lit (.bool true)], args := [d1, d2] }
  | _ => none }
def fnExactRestoreLinksRow : OpenClaim := { program := "ythobjlocnkienaagreatdoor", sum := "f05da413a20ce940747385fa50405f505ceb850ecebb200261fa4cf2d4bb6a3c", func := "loop.example/g00861/laws.FnExactRestoreLinks", spec := "fnExactRestoreLinks", inPlace := ["internal/bytealg.IndexByteString", "internal/bytealg.IndexString"], unfollowed := true, recurses := true, named := ["unicode/utf8.first", "unicode/utf8.acceptRanges", "internal/bytealg.MaxLen"], apart := false, laid := [("unicode/utf8.acceptRanges", laid_unicode_utf8_acceptRanges), ("unicode/utf8.first", laid_unicode_utf8_first)] }
def FnExactRestoreLinksSaid : Prop := fnExactRestoreLinksRow.holds Tryz.pinned (OpenSpec.ofChange fnExactRestoreLinksSpec)

/-- ITS FALSE NEIGHBOUR: 'it returns false'. Refute it at one input. -/
def fnExactRestoreLinksWrong : ChangeSpec := { name := "fnExactRestoreLinks", fn := fun _ => fun
  | [d1, d2] => { results := [.lit (.bool false)], args := [d1, d2] }
  | _ => none }
def FnExactRestoreLinksWrongFalsely : Prop := fnExactRestoreLinksRow.holds Tryz.pinned (OpenSpec.ofChange fnExactRestoreLinksWrong)

/-- 'laws.FnExactLoopPath': WHATEVER THE INPUT: true; the input reads as it did. -/
def fnExactLoopPathSpec : ChangeSpec := { name := "fnExactLoopPath", fn := fun _ => fun
  | [d1, d2, d3] => { results := [.lit (.bool true)], args := [d1, d2, d3] }
  | _ => none }
def fnExactLoopPathRow : OpenClaim := { program := "ythobjlocnkienaagreatdoor", sum := "f05da413a20ce940747385fa50405f505ceb850ecebb200261fa4cf2d4bb6a3c", func := "loop.example/g00861/laws.FnExactLoopPath", spec := "fnExactLoopPath", inPlace := ["internal/bytealg.IndexByteString", "internal/bytealg.IndexString"], unfollowed := true, recurses := true, named := ["unicode/utf8.first", "unicode/utf8.acceptRanges", "internal/bytealg.MaxLen"], apart := false, laid := [("unicode/utf8.acceptRanges", laid_unicode_utf8_acceptRanges), ("unicode/utf8.first", laid_unicode_utf8_first)] }
def FnExactLoopPathSaid : Prop := fnExactLoopPathRow.holds Tryz.pinned (OpenSpec.ofChange fnExactLoopPathSpec)

/-- ITS FALSE NEIGHBOUR: 'it returns false'. Refute it at one input. -/
def fnExactLoopPathWrong : ChangeSpec := { name := "fnExactLoopPath", fn := fun _ => fun
  | [d1, d2, d3] => { results := [.lit (.bool false)], args := [d1, d2, d3] }
  | _ => none }
def FnExactLoopPathWrongFalsely : Prop := fnExactLoopPathRow.holds Tryz.pinned (OpenSpec.ofChange fnExactLoopPathWrong)

/-- 'laws.FnExactLoopsOf': WHATEVER THE INPUT: true; the input reads as it did. -/
def fnExactLoopsOfSpec : ChangeSpec := { name := "fnExactLoopsOf", fn := fun _ => fun
  | [d1, d2] => { results := [.lit (.bool true)], args := [d1, d2] }
  | _ => none }
def fnExactLoopsOfRow : OpenClaim := { program := "ythobjlocnkienaagreatdoor", sum := "f05da413a20ce940747385fa50405f505ceb850ecebb200261fa4cf2d4bb6a3c", func := "loop.example/g00861/laws.FnExactLoopsOf", spec := "fnExactLoopsOf", inPlace := ["internal/bytealg.IndexByteString", "internal/bytealg.IndexString"], unfollowed := true, recurses := true, named := ["unicode/utf8.first", "unicode/utf8.acceptRanges", "internal/bytealg.MaxLen"], apart := false, laid := [("unicode/utf8.acceptRanges", laid_unicode_utf8_acceptRanges), ("unicode/utf8.first", laid_unicode_utf8_first)] }
def FnExactLoopsOfSaid : Prop := fnExactLoopsOfRow.holds Tryz.pinned (OpenSpec.ofChange fnExactLoopsOfSpec)

/-- ITS FALSE NEIGHBOUR: 'it returns false'. Refute it at one input. -/
def fnExactLoopsOfWrong : ChangeSpec := { name := "fnExactLoopsOf", fn := fun _ => fun
  | [d1, d2] => { results := [.lit (.bool false)], args := [d1, d2] }
  | _ => none }
def FnExactLoopsOfWrongFalsely : Prop := fnExactLoopsOfRow.holds Tryz.pinned (OpenSpec.ofChange fnExactLoopsOfWrong)

/-- 'laws.FnExactLoopReport': WHATEVER THE INPUT: true; the input reads as it did. -/
def fnExactLoopReportSpec : ChangeSpec := { name := "fnExactLoopReport", fn := fun _ => fun
  | [d] => { results := [.lit (.bool true)], args := [d] }
  | _ => none }
def fnExactLoopReportRow : OpenClaim := { program := "ythobjlocnkienaagreatdoor", sum := "f05da413a20ce940747385fa50405f505ceb850ecebb200261fa4cf2d4bb6a3c", func := "loop.example/g00861/laws.FnExactLoopReport", spec := "fnExactLoopReport", inPlace := ["internal/bytealg.IndexByteString", "internal/bytealg.IndexString"], unfollowed := true, recurses := true, named := ["unicode/utf8.first", "unicode/utf8.acceptRanges", "internal/bytealg.MaxLen"], apart := false, laid := [("unicode/utf8.acceptRanges", laid_unicode_utf8_acceptRanges), ("unicode/utf8.first", laid_unicode_utf8_first)] }
def FnExactLoopReportSaid : Prop := fnExactLoopReportRow.holds Tryz.pinned (OpenSpec.ofChange fnExactLoopReportSpec)

/-- ITS FALSE NEIGHBOUR: 'it returns false'. Refute it at one input. -/
def fnExactLoopReportWrong : ChangeSpec := { name := "fnExactLoopReport", fn := fun _ => fun
  | [d] => { results := [.lit (.bool false)], args := [d] }
  | _ => none }
def FnExactLoopReportWrongFalsely : Prop := fnExactLoopReportRow.holds Tryz.pinned (OpenSpec.ofChange fnExactLoopReportWrong)

/-- 'laws.FnExactBreakLoops': WHATEVER THE INPUT: true; the input reads as it did. -/
def fnExactBreakLoopsSpec : ChangeSpec := { name := "fnExactBreakLoops", fn := fun _ => fun
  | [d] => { results := [.lit (.bool true)], args := [d] }
  | _ => none }
def fnExactBreakLoopsRow : OpenClaim := { program := "ythobjlocnkienaagreatdoor", sum := "f05da413a20ce940747385fa50405f505ceb850ecebb200261fa4cf2d4bb6a3c", func := "loop.example/g00861/laws.FnExactBreakLoops", spec := "fnExactBreakLoops", inPlace := ["internal/bytealg.IndexByteString", "internal/bytealg.IndexString"], unfollowed := true, recurses := true, named := ["unicode/utf8.first", "unicode/utf8.acceptRanges", "internal/bytealg.MaxLen"], apart := false, laid := [("unicode/utf8.acceptRanges", laid_unicode_utf8_acceptRanges), ("unicode/utf8.first", laid_unicode_utf8_first)] }
def FnExactBreakLoopsSaid : Prop := fnExactBreakLoopsRow.holds Tryz.pinned (OpenSpec.ofChange fnExactBreakLoopsSpec)

/-- ITS FALSE NEIGHBOUR: 'it returns false'. Refute it at one input. -/
def fnExactBreakLoopsWrong : ChangeSpec := { name := "fnExactBreakLoops", fn := fun _ => fun
  | [d] => { results := [.lit (.bool false)], args := [d] }
  | _ => none }
def FnExactBreakLoopsWrongFalsely : Prop := fnExactBreakLoopsRow.holds Tryz.pinned (OpenSpec.ofChange fnExactBreakLoopsWrong)

/- THE SECOND FORM. 'bulk': how many values and letters a reading holds, each counted each time it is reached (what is shared counts as often as it is met; a slice's spare places count too). A statement '..UptoSaid' is the law's where the arguments, and the package variables that the reading takes, are together of bulk at most 1048576: NARROWER than '..Said'. Prove '..Said' where nothing that the law and all that it calls make is longer than what came in: it says more and counts as full. Else prove '..UptoSaid'. A law counts once. -/
mutual
def uptoBulk {H : Type} : DataW H → Nat
  | .lit (.string bytes) => bytes.length + 1
  | .lit _ => 1
  | .nil => 1
  | .ptr d => uptoBulk d + 1
  | .slice elems spare => uptoBulkAll elems + uptoBulkAll spare + 1
  | .agg parts => uptoBulkAll parts + 1
  | .iface _ d => uptoBulk d + 1
  | .map entries => uptoBulkEntries entries + 1
  | .held _ => 1
def uptoBulkAll {H : Type} : List (DataW H) → Nat
  | [] => 0
  | d :: r => uptoBulk d + uptoBulkAll r
def uptoBulkEntries {H : Type} : List (Lit × DataW H) → Nat
  | [] => 0
  | x :: r => uptoBulkEntry x + uptoBulkEntries r
def uptoBulkEntry {H : Type} : Lit × DataW H → Nat
  | (.string bytes, d) => bytes.length + uptoBulk d + 1
  | (_, d) => uptoBulk d + 1
 end
def uptoSmall : (H : Type) → List (DataW H) → Bool := fun _ ds => decide (uptoBulkAll ds ≤ 1048576)
def OpenSpec.upto (s : _root_.Go.ChangeSpec) : _root_.Go.OpenSpec := { _root_.Go.OpenSpec.ofChange s with cond := some uptoSmall }

/-- 'laws.FnExactFanIn', WHERE WHAT IT READS IS OF BULK AT MOST 1048576: true; the input reads as it did. -/
def fnExactFanInUptoRow : OpenClaim := { program := "ythobjlocnkienaagreatdoor", sum := "f05da413a20ce940747385fa50405f505ceb850ecebb200261fa4cf2d4bb6a3c", func := "loop.example/g00861/laws.FnExactFanIn", spec := "fnExactFanIn", inPlace := ["internal/bytealg.IndexByteString", "internal/bytealg.IndexString"], unfollowed := true, recurses := true, named := ["unicode/utf8.first", "unicode/utf8.acceptRanges", "internal/bytealg.MaxLen"], apart := false, laid := [("unicode/utf8.acceptRanges", laid_unicode_utf8_acceptRanges), ("unicode/utf8.first", laid_unicode_utf8_first)], narrowed := true }
def FnExactFanInUptoSaid : Prop := fnExactFanInUptoRow.holds Tryz.pinned (OpenSpec.upto fnExactFanInSpec)

/-- 'laws.FnExactFanOut', WHERE WHAT IT READS IS OF BULK AT MOST 1048576: true; the input reads as it did. -/
def fnExactFanOutUptoRow : OpenClaim := { program := "ythobjlocnkienaagreatdoor", sum := "f05da413a20ce940747385fa50405f505ceb850ecebb200261fa4cf2d4bb6a3c", func := "loop.example/g00861/laws.FnExactFanOut", spec := "fnExactFanOut", inPlace := ["internal/bytealg.IndexByteString", "internal/bytealg.IndexString"], unfollowed := true, recurses := true, named := ["unicode/utf8.first", "unicode/utf8.acceptRanges", "internal/bytealg.MaxLen"], apart := false, laid := [("unicode/utf8.acceptRanges", laid_unicode_utf8_acceptRanges), ("unicode/utf8.first", laid_unicode_utf8_first)], narrowed := true }
def FnExactFanOutUptoSaid : Prop := fnExactFanOutUptoRow.holds Tryz.pinned (OpenSpec.upto fnExactFanOutSpec)

/-- 'laws.FnExactRestoreLinks', WHERE WHAT IT READS IS OF BULK AT MOST 1048576: true; the input reads as it did. -/
def fnExactRestoreLinksUptoRow : OpenClaim := { program := "ythobjlocnkienaagreatdoor", sum := "f05da413a20ce940747385fa50405f505ceb850ecebb200261fa4cf2d4bb6a3c", func := "loop.example/g00861/laws.FnExactRestoreLinks", spec := "fnExactRestoreLinks", inPlace := ["internal/bytealg.IndexByteString", "internal/bytealg.IndexString"], unfollowed := true, recurses := true, named := ["unicode/utf8.first", "unicode/utf8.acceptRanges", "internal/bytealg.MaxLen"], apart := false, laid := [("unicode/utf8.acceptRanges", laid_unicode_utf8_acceptRanges), ("unicode/utf8.first", laid_unicode_utf8_first)], narrowed := true }
def FnExactRestoreLinksUptoSaid : Prop := fnExactRestoreLinksUptoRow.holds Tryz.pinned (OpenSpec.upto fnExactRestoreLinksSpec)

/-- 'laws.FnExactLoopPath', WHERE WHAT IT READS IS OF BULK AT MOST 1048576: true; the input reads as it did. -/
def fnExactLoopPathUptoRow : OpenClaim := { program := "ythobjlocnkienaagreatdoor", sum := "f05da413a20ce940747385fa50405f505ceb850ecebb200261fa4cf2d4bb6a3c", func := "loop.example/g00861/laws.FnExactLoopPath", spec := "fnExactLoopPath", inPlace := ["internal/bytealg.IndexByteString", "internal/bytealg.IndexString"], unfollowed := true, recurses := true, named := ["unicode/utf8.first", "unicode/utf8.acceptRanges", "internal/bytealg.MaxLen"], apart := false, laid := [("unicode/utf8.acceptRanges", laid_unicode_utf8_acceptRanges), ("unicode/utf8.first", laid_unicode_utf8_first)], narrowed := true }
def FnExactLoopPathUptoSaid : Prop := fnExactLoopPathUptoRow.holds Tryz.pinned (OpenSpec.upto fnExactLoopPathSpec)

/-- 'laws.FnExactLoopsOf', WHERE WHAT IT READS IS OF BULK AT MOST 1048576: true; the input reads as it did. -/
def fnExactLoopsOfUptoRow : OpenClaim := { program := "ythobjlocnkienaagreatdoor", sum := "f05da413a20ce940747385fa50405f505ceb850ecebb200261fa4cf2d4bb6a3c", func := "loop.example/g00861/laws.FnExactLoopsOf", spec := "fnExactLoopsOf", inPlace := ["internal/bytealg.IndexByteString", "internal/bytealg.IndexString"], unfollowed := true, recurses := true, named := ["unicode/utf8.first", "unicode/utf8.acceptRanges", "internal/bytealg.MaxLen"], apart := false, laid := [("unicode/utf8.acceptRanges", laid_unicode_utf8_acceptRanges), ("unicode/utf8.first", laid_unicode_utf8_first)], narrowed := true }
def FnExactLoopsOfUptoSaid : Prop := fnExactLoopsOfUptoRow.holds Tryz.pinned (OpenSpec.upto fnExactLoopsOfSpec)

/-- 'laws.FnExactLoopReport', WHERE WHAT IT READS IS OF BULK AT MOST 1048576: true; the input reads as it did. -/
def fnExactLoopReportUptoRow : OpenClaim := { program := "ythobjlocnkienaagreatdoor", sum := "f05da413a20ce940747385fa50405f505ceb850ecebb200261fa4cf2d4bb6a3c", func := "loop.example/g00861/laws.FnExactLoopReport", spec := "fnExactLoopReport", inPlace := ["internal/bytealg.IndexByteString", "internal/bytealg.IndexString"], unfollowed := true, recurses := true, named := ["unicode/utf8.first", "unicode/utf8.acceptRanges", "internal/bytealg.MaxLen"], apart := false, laid := [("unicode/utf8.acceptRanges", laid_unicode_utf8_acceptRanges), ("unicode/utf8.first", laid_unicode_utf8_first)], narrowed := true }
def FnExactLoopReportUptoSaid : Prop := fnExactLoopReportUptoRow.holds Tryz.pinned (OpenSpec.upto fnExactLoopReportSpec)

/-- 'laws.FnExactBreakLoops', WHERE WHAT IT READS IS OF BULK AT MOST 1048576: true; the input reads as it did. -/
def fnExactBreakLoopsUptoRow : OpenClaim := { program := "ythobjlocnkienaagreatdoor", sum := "f05da413a20ce940747385fa50405f505ceb850ecebb200261fa4cf2d4bb6a3c", func := "loop.example/g00861/laws.FnExactBreakLoops", spec := "fnExactBreakLoops", inPlace := ["internal/bytealg.IndexByteString", "internal/bytealg.IndexString"], unfollowed := true, recurses := true, named := ["unicode/utf8.first", "unicode/utf8.acceptRanges", "internal/bytealg.MaxLen"], apart := false, laid := [("unicode/utf8.acceptRanges", laid_unicode_utf8_acceptRanges), ("unicode/utf8.first", laid_unicode_utf8_first)], narrowed := true }
def FnExactBreakLoopsUptoSaid : Prop := fnExactBreakLoopsUptoRow.holds Tryz.pinned (OpenSpec.upto fnExactBreakLoopsSpec)

end Rows
end Go.Proofs.YthobjlocnkienaaGreatDoor
