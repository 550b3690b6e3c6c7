/-
  NARROWER THAN 'FOR EVERY INPUT', by the rows' own cells (each row's printed sentence says how): FnExactLinkSlew: laid · FnExactLinkDelay: laid · FnExactLinkDelayBounds: laid · FnExactStageDelay: laid · FnExactLinkSpans: laid · FnExactHasLoop: laid · FnExactIsMinimalBreak: laid.
  DERIVED. THE GIVEN ROWS OF THIS SEAT. 7 by the template 'for every input the law returns true; each argument reads behind the call as it read before'; 0 by the template 'total and deterministic' (their statements: YticmgmebjmblgaaGreatDoorTotals.lean).
  GIVEN WITH THE SEED: the statements are not yours to turn. If you find one false, say at which input.
  Laid BY PROGRAM, IN A SANDBOX (cutbox-rows.mjs): the forced cells as the released guide's own fill.sh prints them over the translation 70395f3c6fff87cd… (all of the seat's roots in one cut). By AI agents, Wed Nov 11 2026. No macro, syntax, notation, axiom, sorry.
-/
import Derived.Test.YticmgmebjmblgaaGreatDoorChecked
import GoSem.PinnedTables
import GoSem.Claim
import GoSem.ClaimJoined
import GoSem.ClaimMapViews
import Derived.JoinedTies
import Derived.KernelRfl
namespace Go.Proofs.YticmgmebjmblgaaGreatDoor
/- THE CELL 'sum', in the pinned program and in every row, IS THE sha256 OF THE DUMP (.gsa) THAT YticmgmebjmblgaaGreatDoorProg.lean LOADS. Nothing in Lean hashes anything: it is a label: what it is worth is what the hold of that sum in a sandbox is worth. -/
noncomputable def Tryz.pinned : Pinned := { name := "yticmgmebjmblgaagreatdoor", sum := "70395f3c6fff87cd2963262c8c3fd68fee5cd9a06d59667c3ff956f7313c4d23", checked := Tryz.checked }
namespace Rows
def none {H : Type} : Left H := { results := [], args := [] }

/- WHAT THE LISTED PACKAGE-LEVEL VARIABLES READ AS WHEN THE CALL BEGINS. Each datum BY PROGRAM (the guide's laid-datum.mjs) off the statement by which the dump's own 'gosem.cut.vars' lays the variable. In a bare row this is a premise. The card (YticmgmebjmblgaaGreatDoorCards.lean) ties it to the program's text. -/
def laid_unicode_utf8_acceptRanges {H : Type} : DataW H := .agg [.agg [.lit (.int .u8 128), .lit (.int .u8 191)], .agg [.lit (.int .u8 160), .lit (.int .u8 191)], .agg [.lit (.int .u8 128), .lit (.int .u8 159)], .agg [.lit (.int .u8 144), .lit (.int .u8 191)], .agg [.lit (.int .u8 128), .lit (.int .u8 143)], .agg [.lit (.int .u8 0), .lit (.int .u8 0)], .agg [.lit (.int .u8 0), .lit (.int .u8 0)], .agg [.lit (.int .u8 0), .lit (.int .u8 0)], .agg [.lit (.int .u8 0), .lit (.int .u8 0)], .agg [.lit (.int .u8 0), .lit (.int .u8 0)], .agg [.lit (.int .u8 0), .lit (.int .u8 0)], .agg [.lit (.int .u8 0), .lit (.int .u8 0)], .agg [.lit (.int .u8 0), .lit (.int .u8 0)], .agg [.lit (.int .u8 0), .lit (.int .u8 0)], .agg [.lit (.int .u8 0), .lit (.int .u8 0)], .agg [.lit (.int .u8 0), .lit (.int .u8 0)]]
/-- One of Go's own tables, pinned by name: the form's constant. -/
def laid_unicode_utf8_first : DataW Unit := Go.Pinned.utf8First

/-- 'laws.FnExactLinkSlew': WHATEVER THE INPUT: true; the input reads as it did. -/
def fnExactLinkSlewSpec : ChangeSpec := { name := "fnExactLinkSlew", fn := fun _ => fun
  | [d1, d2, d3, d4] => { results := [.lit (.bool true)], args := [d1, d2, d3, d4] }
  | _ => none }
def fnExactLinkSlewRow : OpenClaim := { program := "yticmgmebjmblgaagreatdoor", sum := "70395f3c6fff87cd2963262c8c3fd68fee5cd9a06d59667c3ff956f7313c4d23", func := "loop.example/g00861/laws.FnExactLinkSlew", spec := "fnExactLinkSlew", inPlace := ["internal/bytealg.IndexByteString", "internal/bytealg.IndexString"], unfollowed := true, recurses := true, named := ["unicode/utf8.first", "unicode/utf8.acceptRanges", "internal/bytealg.MaxLen"], apart := false, laid := [("unicode/utf8.acceptRanges", laid_unicode_utf8_acceptRanges), ("unicode/utf8.first", laid_unicode_utf8_first)] }
def FnExactLinkSlewSaid : Prop := fnExactLinkSlewRow.holds Tryz.pinned (OpenSpec.ofChange fnExactLinkSlewSpec)

/-- ITS FALSE NEIGHBOUR: 'it returns false'. Refute it at one input. -/
def fnExactLinkSlewWrong : ChangeSpec := { name := "fnExactLinkSlew", fn := fun _ => fun
  | [d1, d2, d3, d4] => { results := [.lit (.bool false)], args := [d1, d2, d3, d4] }
  | _ => none }
def FnExactLinkSlewWrongFalsely : Prop := fnExactLinkSlewRow.holds Tryz.pinned (OpenSpec.ofChange fnExactLinkSlewWrong)

/-- 'laws.FnExactLinkDelay': WHATEVER THE INPUT: true; the input reads as it did. -/
def fnExactLinkDelaySpec : ChangeSpec := { name := "fnExactLinkDelay", fn := fun _ => fun
  | [d1, d2, d3, d4, d5] => { results := [.lit (.bool true)], args := [d1, d2, d3, d4, d5] }
  | _ => none }
def fnExactLinkDelayRow : OpenClaim := { program := "yticmgmebjmblgaagreatdoor", sum := "70395f3c6fff87cd2963262c8c3fd68fee5cd9a06d59667c3ff956f7313c4d23", func := "loop.example/g00861/laws.FnExactLinkDelay", spec := "fnExactLinkDelay", inPlace := ["internal/bytealg.IndexByteString", "internal/bytealg.IndexString"], unfollowed := true, recurses := true, named := ["unicode/utf8.first", "unicode/utf8.acceptRanges", "internal/bytealg.MaxLen"], apart := false, laid := [("unicode/utf8.acceptRanges", laid_unicode_utf8_acceptRanges), ("unicode/utf8.first", laid_unicode_utf8_first)] }
def FnExactLinkDelaySaid : Prop := fnExactLinkDelayRow.holds Tryz.pinned (OpenSpec.ofChange fnExactLinkDelaySpec)

/-- ITS FALSE NEIGHBOUR: 'it returns false'. Refute it at one input. -/
def fnExactLinkDelayWrong : ChangeSpec := { name := "fnExactLinkDelay", fn := fun _ => fun
  | [d1, d2, d3, d4, d5] => { results := [.lit (.bool false)], args := [d1, d2, d3, d4, d5] }
  | _ => none }
def FnExactLinkDelayWrongFalsely : Prop := fnExactLinkDelayRow.holds Tryz.pinned (OpenSpec.ofChange fnExactLinkDelayWrong)

/-- 'laws.FnExactLinkDelayBounds': WHATEVER THE INPUT: true; the input reads as it did. -/
def fnExactLinkDelayBoundsSpec : ChangeSpec := { name := "fnExactLinkDelayBounds", fn := fun _ => fun
  | [d1, d2, d3] => { results := [.lit (.bool true)], args := [d1, d2, d3] }
  | _ => none }
def fnExactLinkDelayBoundsRow : OpenClaim := { program := "yticmgmebjmblgaagreatdoor", sum := "70395f3c6fff87cd2963262c8c3fd68fee5cd9a06d59667c3ff956f7313c4d23", func := "loop.example/g00861/laws.FnExactLinkDelayBounds", spec := "fnExactLinkDelayBounds", inPlace := ["internal/bytealg.IndexByteString", "internal/bytealg.IndexString"], unfollowed := true, recurses := true, named := ["unicode/utf8.first", "unicode/utf8.acceptRanges", "internal/bytealg.MaxLen"], apart := false, laid := [("unicode/utf8.acceptRanges", laid_unicode_utf8_acceptRanges), ("unicode/utf8.first", laid_unicode_utf8_first)] }
def FnExactLinkDelayBoundsSaid : Prop := fnExactLinkDelayBoundsRow.holds Tryz.pinned (OpenSpec.ofChange fnExactLinkDelayBoundsSpec)

/-- ITS FALSE NEIGHBOUR: 'it returns false'. Refute it at one input. -/
def fnExactLinkDelayBoundsWrong : ChangeSpec := { name := "fnExactLinkDelayBounds", fn := fun _ => fun
  | [d1, d2, d3] => { results := [.lit (.bool false)], args := [d1, d2, d3] }
  | _ => none }
def FnExactLinkDelayBoundsWrongFalsely : Prop := fnExactLinkDelayBoundsRow.holds Tryz.pinned (OpenSpec.ofChange fnExactLinkDelayBoundsWrong)

/-- 'laws.FnExactStageDelay': WHATEVER THE INPUT: true; the input reads as it did. -/
def fnExactStageDelaySpec : ChangeSpec := { name := "fnExactStageDelay", fn := fun _ => fun
  | [d1, d2, d3, d4, d5] => { results := [.lit (.bool true)], args := [d1, d2, d3, d4, d5] }
  | _ => none }
def fnExactStageDelayRow : OpenClaim := { program := "yticmgmebjmblgaagreatdoor", sum := "70395f3c6fff87cd2963262c8c3fd68fee5cd9a06d59667c3ff956f7313c4d23", func := "loop.example/g00861/laws.FnExactStageDelay", spec := "fnExactStageDelay", inPlace := ["internal/bytealg.IndexByteString", "internal/bytealg.IndexString"], unfollowed := true, recurses := true, named := ["unicode/utf8.first", "unicode/utf8.acceptRanges", "internal/bytealg.MaxLen"], apart := false, laid := [("unicode/utf8.acceptRanges", laid_unicode_utf8_acceptRanges), ("unicode/utf8.first", laid_unicode_utf8_first)] }
def FnExactStageDelaySaid : Prop := fnExactStageDelayRow.holds Tryz.pinned (OpenSpec.ofChange fnExactStageDelaySpec)

/-- ITS FALSE NEIGHBOUR: 'it returns false'. Refute it at one input. -/
def fnExactStageDelayWrong : ChangeSpec := { name := "fnExactStageDelay", fn := fun _ => fun
  | [d1, d2, d3, d4, d5] => { results := [.lit (.bool false)], args := [d1, d2, d3, d4, d5] }
  | _ => none }
def FnExactStageDelayWrongFalsely : Prop := fnExactStageDelayRow.holds Tryz.pinned (OpenSpec.ofChange fnExactStageDelayWrong)

/-- 'laws.FnExactLinkSpans': WHATEVER THE INPUT: true; the input reads as it did. -/
def fnExactLinkSpansSpec : ChangeSpec := { name := "fnExactLinkSpans", fn := fun _ => fun
  | [d1, d2, d3, d4] => { results := [.lit (.bool true)], args := [d1, d2, d3, d4] }
  | _ => none }
def fnExactLinkSpansRow : OpenClaim := { program := "yticmgmebjmblgaagreatdoor", sum := "70395f3c6fff87cd2963262c8c3fd68fee5cd9a06d59667c3ff956f7313c4d23", func := "loop.example/g00861/laws.FnExactLinkSpans", spec := "fnExactLinkSpans", inPlace := ["internal/bytealg.IndexByteString", "internal/bytealg.IndexString"], unfollowed := true, recurses := true, named := ["unicode/utf8.first", "unicode/utf8.acceptRanges", "internal/bytealg.MaxLen"], apart := false, laid := [("unicode/utf8.acceptRanges", laid_unicode_utf8_acceptRanges), ("unicode/utf8.first", laid_unicode_utf8_first)] }
def FnExactLinkSpansSaid : Prop := fnExactLinkSpansRow.holds Tryz.pinned (OpenSpec.ofChange fnExactLinkSpansSpec)

/-- ITS FALSE NEIGHBOUR: 'it returns false'. Refute it at one input. -/
def fnExactLinkSpansWrong : ChangeSpec := { name := "fnExactLinkSpans", fn := fun _ => fun
  | [d1, d2, d3, d4] => { results := [.lit (.bool false)], args := [d1, d2, d3, d4] }
  | _ => none }
def FnExactLinkSpansWrongFalsely : Prop := fnExactLinkSpansRow.holds Tryz.pinned (OpenSpec.ofChange fnExactLinkSpansWrong)

/-- 'laws.FnExactHasLoop': WHATEVER THE INPUT: true; the input reads as it did. -/
def fnExactHasLoopSpec : ChangeSpec := { name := "fnExactHasLoop", fn := fun _ => fun
  | [d1, d2] => { results := [.lit (.bool true)], args := [d1, d2] }
  | _ => none }
def fnExactHasLoopRow : OpenClaim := { program := "yticmgmebjmblgaagreatdoor", sum := "70395f3c6fff87cd2963262c8c3fd68fee5cd9a06d59667c3ff956f7313c4d23", func := "loop.example/g00861/laws.FnExactHasLoop", spec := "fnExactHasLoop", inPlace := ["internal/bytealg.IndexByteString", "internal/bytealg.IndexString"], unfollowed := true, recurses := true, named := ["unicode/utf8.first", "unicode/utf8.acceptRanges", "internal/bytealg.MaxLen"], apart := false, laid := [("unicode/utf8.acceptRanges", laid_unicode_utf8_acceptRanges), ("unicode/utf8.first", laid_unicode_utf8_first)] }
def FnExactHasLoopSaid : Prop := fnExactHasLoopRow.holds Tryz.pinned (OpenSpec.ofChange fnExactHasLoopSpec)

/-- ITS FALSE NEIGHBOUR: 'it returns false'. Refute it at one input. -/
def fnExactHasLoopWrong : ChangeSpec := { name := "fnExactHasLoop", fn := fun _ => fun
  | [d1, d2] => { results := [.lit (.bool false)], args := [d1, d2] }
  | _ => none }
def FnExactHasLoopWrongFalsely : Prop := fnExactHasLoopRow.holds Tryz.pinned (OpenSpec.ofChange fnExactHasLoopWrong)

/-- 'laws.FnExactIsMinimalBreak': WHATEVER THE INPUT: true; the input reads as it did. -/
def fnExactIsMinimalBreakSpec : ChangeSpec := { name := "fnExactIsMinimalBreak", fn := fun _ => fun
  | [d1, d2] => { results := [.lit (.bool true)], args := [d1, d2] }
  | _ => none }
def fnExactIsMinimalBreakRow : OpenClaim := { program := "yticmgmebjmblgaagreatdoor", sum := "70395f3c6fff87cd2963262c8c3fd68fee5cd9a06d59667c3ff956f7313c4d23", func := "loop.example/g00861/laws.FnExactIsMinimalBreak", spec := "fnExactIsMinimalBreak", inPlace := ["internal/bytealg.IndexByteString", "internal/bytealg.IndexString"], unfollowed := true, recurses := true, named := ["unicode/utf8.first", "unicode/utf8.acceptRanges", "internal/bytealg.MaxLen"], apart := false, laid := [("unicode/utf8.acceptRanges", laid_unicode_utf8_acceptRanges), ("unicode/utf8.first", laid_unicode_utf8_first)] }
def FnExactIsMinimalBreakSaid : Prop := fnExactIsMinimalBreakRow.holds Tryz.pinned (OpenSpec.ofChange fnExactIsMinimalBreakSpec)

/-- ITS FALSE NEIGHBOUR: 'it returns false'. Refute it at one input. -/
def fnExactIsMinimalBreakWrong : ChangeSpec := { name := "fnExactIsMinimalBreak", fn := fun _ => fun
  | [d1, d2] => { results := [.lit (.bool false)], args := [d1, d2] }
  | _ => none }
def FnExactIsMinimalBreakWrongFalsely : Prop := fnExactIsMinimalBreakRow.holds Tryz.pinned (OpenSpec.ofChange fnExactIsMinimalBreakWrong)

/- THE SECOND FORM. 'bulk': how many values and letters a reading holds, each counted each time it is reached (what is shared counts as often as it is met; a slice's spare places count too). A statement '..UptoSaid' is the law's where the arguments, and the package variables that the reading takes, are together of bulk at most 1048576: NARROWER than '..Said'. Prove '..Said' where nothing that the law and all that it calls make is longer than what came in: it says more and counts as full. Else prove '..UptoSaid'. A law counts once. -/
mutual
def uptoBulk {H : Type} : DataW H → Nat
  | .lit (.string bytes) => bytes.length + 1
  | .lit _ => 1
  | .nil => 1
  | .ptr d => uptoBulk d + 1
  | .slice elems spare => uptoBulkAll elems + uptoBulkAll spare + 1
  | .agg parts => uptoBulkAll parts + 1
  | .iface _ d => uptoBulk d + 1
  | .map entries => uptoBulkEntries entries + 1
  | .held _ => 1
def uptoBulkAll {H : Type} : List (DataW H) → Nat
  | [] => 0
  | d :: r => uptoBulk d + uptoBulkAll r
def uptoBulkEntries {H : Type} : List (Lit × DataW H) → Nat
  | [] => 0
  | x :: r => uptoBulkEntry x + uptoBulkEntries r
def uptoBulkEntry {H : Type} : Lit × DataW H → Nat
  | (.string bytes, d) => bytes.length + uptoBulk d + 1
  | (_, d) => uptoBulk d + 1
 end
def uptoSmall : (H : Type) → List (DataW H) → Bool := fun _ ds => decide (uptoBulkAll ds ≤ 1048576)
def OpenSpec.upto (s : _root_.Go.ChangeSpec) : _root_.Go.OpenSpec := { _root_.Go.OpenSpec.ofChange s with cond := some uptoSmall }

/-- 'laws.FnExactLinkSlew', WHERE WHAT IT READS IS OF BULK AT MOST 1048576: true; the input reads as it did. -/
def fnExactLinkSlewUptoRow : OpenClaim := { program := "yticmgmebjmblgaagreatdoor", sum := "70395f3c6fff87cd2963262c8c3fd68fee5cd9a06d59667c3ff956f7313c4d23", func := "loop.example/g00861/laws.FnExactLinkSlew", spec := "fnExactLinkSlew", inPlace := ["internal/bytealg.IndexByteString", "internal/bytealg.IndexString"], unfollowed := true, recurses := true, named := ["unicode/utf8.first", "unicode/utf8.acceptRanges", "internal/bytealg.MaxLen"], apart := false, laid := [("unicode/utf8.acceptRanges", laid_unicode_utf8_acceptRanges), ("unicode/utf8.first", laid_unicode_utf8_first)], narrowed := true }
def FnExactLinkSlewUptoSaid : Prop := fnExactLinkSlewUptoRow.holds Tryz.pinned (OpenSpec.upto fnExactLinkSlewSpec)

/-- 'laws.FnExactLinkDelay', WHERE WHAT IT READS IS OF BULK AT MOST 1048576: true; the input reads as it did. -/
def fnExactLinkDelayUptoRow : OpenClaim := { program := "yticmgmebjmblgaagreatdoor", sum := "70395f3c6fff87cd2963262c8c3fd68fee5cd9a06d59667c3ff956f7313c4d23", func := "loop.example/g00861/laws.FnExactLinkDelay", spec := "fnExactLinkDelay", inPlace := ["internal/bytealg.IndexByteString", "internal/bytealg.IndexString"], unfollowed := true, recurses := true, named := ["unicode/utf8.first", "unicode/utf8.acceptRanges", "internal/bytealg.MaxLen"], apart := false, laid := [("unicode/utf8.acceptRanges", laid_unicode_utf8_acceptRanges), ("unicode/utf8.first", laid_unicode_utf8_first)], narrowed := true }
def FnExactLinkDelayUptoSaid : Prop := fnExactLinkDelayUptoRow.holds Tryz.pinned (OpenSpec.upto fnExactLinkDelaySpec)

/-- 'laws.FnExactLinkDelayBounds', WHERE WHAT IT READS IS OF BULK AT MOST 1048576: true; the input reads as it did. -/
def fnExactLinkDelayBoundsUptoRow : OpenClaim := { program := "yticmgmebjmblgaagreatdoor", sum := "70395f3c6fff87cd2963262c8c3fd68fee5cd9a06d59667c3ff956f7313c4d23", func := "loop.example/g00861/laws.FnExactLinkDelayBounds", spec := "fnExactLinkDelayBounds", inPlace := ["internal/bytealg.IndexByteString", "internal/bytealg.IndexString"], unfollowed := true, recurses := true, named := ["unicode/utf8.first", "unicode/utf8.acceptRanges", "internal/bytealg.MaxLen"], apart := false, laid := [("unicode/utf8.acceptRanges", laid_unicode_utf8_acceptRanges), ("unicode/utf8.first", laid_unicode_utf8_first)], narrowed := true }
def FnExactLinkDelayBoundsUptoSaid : Prop := fnExactLinkDelayBoundsUptoRow.holds Tryz.pinned (OpenSpec.upto fnExactLinkDelayBoundsSpec)

/-- 'laws.FnExactStageDelay', WHERE WHAT IT READS IS OF BULK AT MOST 1048576: true; the input reads as it did. -/
def fnExactStageDelayUptoRow : OpenClaim := { program := "yticmgmebjmblgaagreatdoor", sum := "70395f3c6fff87cd2963262c8c3fd68fee5cd9a06d59667c3ff956f7313c4d23", func := "loop.example/g00861/laws.FnExactStageDelay", spec := "fnExactStageDelay", inPlace := ["internal/bytealg.IndexByteString", "internal/bytealg.IndexString"], unfollowed := true, recurses := true, named := ["unicode/utf8.first", "unicode/utf8.acceptRanges", "internal/bytealg.MaxLen"], apart := false, laid := [("unicode/utf8.acceptRanges", laid_unicode_utf8_acceptRanges), ("unicode/utf8.first", laid_unicode_utf8_first)], narrowed := true }
def FnExactStageDelayUptoSaid : Prop := fnExactStageDelayUptoRow.holds Tryz.pinned (OpenSpec.upto fnExactStageDelaySpec)

/-- 'laws.FnExactLinkSpans', WHERE WHAT IT READS IS OF BULK AT MOST 1048576: true; the input reads as it did. -/
def fnExactLinkSpansUptoRow : OpenClaim := { program := "yticmgmebjmblgaagreatdoor", sum := "70395f3c6fff87cd2963262c8c3fd68fee5cd9a06d59667c3ff956f7313c4d23", func := "loop.example/g00861/laws.FnExactLinkSpans", spec := "fnExactLinkSpans", inPlace := ["internal/bytealg.IndexByteString", "internal/bytealg.IndexString"], unfollowed := true, recurses := true, named := ["unicode/utf8.first", "unicode/utf8.acceptRanges", "internal/bytealg.MaxLen"], apart := false, laid := [("unicode/utf8.acceptRanges", laid_unicode_utf8_acceptRanges), ("unicode/utf8.first", laid_unicode_utf8_first)], narrowed := true }
def FnExactLinkSpansUptoSaid : Prop := fnExactLinkSpansUptoRow.holds Tryz.pinned (OpenSpec.upto fnExactLinkSpansSpec)

/-- 'laws.FnExactHasLoop', WHERE WHAT IT READS IS OF BULK AT MOST 1048576: true; the input reads as it did. -/
def fnExactHasLoopUptoRow : OpenClaim := { program := "yticmgmebjmblgaagreatdoor", sum := "70395f3c6fff87cd2963262c8c3fd68fee5cd9a06d59667c3ff956f7313c4d23", func := "loop.example/g00861/laws.FnExactHasLoop", spec := "fnExactHasLoop", inPlace := ["internal/bytealg.IndexByteString", "internal/bytealg.IndexString"], unfollowed := true, recurses := true, named := ["unicode/utf8.first", "unicode/utf8.acceptRanges", "internal/bytealg.MaxLen"], apart := false, laid := [("unicode/utf8.acceptRanges", laid_unicode_utf8_acceptRanges), ("unicode/utf8.first", laid_unicode_utf8_first)], narrowed := true }
def FnExactHasLoopUptoSaid : Prop := fnExactHasLoopUptoRow.holds Tryz.pinned (OpenSpec.upto fnExactHasLoopSpec)

/-- 'laws.FnExactIsMinimalBreak', WHERE WHAT IT READS IS OF BULK AT MOST 1048576: true; the input reads as it did. -/
def fnExactIsMinimalBreakUptoRow : OpenClaim := { program := "yticmgmebjmblgaagreatdoor", sum := "70395f3c6fff87cd2963262c8c3fd68fee5cd9a06d59667c3ff956f7313c4d23", func := "loop.example/g00861/laws.FnExactIsMinimalBreak", spec := "fnExactIsMinimalBreak", inPlace := ["internal/bytealg.IndexByteString", "internal/bytealg.IndexString"], unfollowed := true, recurses := true, named := ["unicode/utf8.first", "unicode/utf8.acceptRanges", "internal/bytealg.MaxLen"], apart := false, laid := [("unicode/utf8.acceptRanges", laid_unicode_utf8_acceptRanges), ("unicode/utf8.first", laid_unicode_utf8_first)], narrowed := true }
def FnExactIsMinimalBreakUptoSaid : Prop := fnExactIsMinimalBreakUptoRow.holds Tryz.pinned (OpenSpec.upto fnExactIsMinimalBreakSpec)

end Rows
end Go.Proofs.YticmgmebjmblgaaGreatDoor
