/-
  NARROWER THAN 'FOR EVERY INPUT', by the rows' own cells (each row's printed sentence says how): FnExactWorstLink: laid · FnExactNodeTiming: laid · FnExactPropagateTiming: laid · FnExactWorstPath: laid.
  DERIVED. THE GIVEN ROWS OF THIS SEAT. 4 by the template 'for every input the law returns true; each argument reads behind the call as it read before'; 0 by the template 'total and deterministic' (their statements: YtechodbafnmddaaGreatDoorTotals.lean).
  GIVEN WITH THE SEED: the statements are not yours to turn. If you find one false, say at which input.
  Laid BY PROGRAM, IN A SANDBOX (cutbox-rows.mjs): the forced cells as the released guide's own fill.sh prints them over the translation 838129c83be5b7a5… (all of the seat's roots in one cut). By AI agents, Wed Nov 11 2026. No macro, syntax, notation, axiom, sorry.
-/
import Derived.Test.YtechodbafnmddaaGreatDoorChecked
import GoSem.PinnedTables
import GoSem.Claim
import GoSem.ClaimJoined
import GoSem.ClaimMapViews
import Derived.JoinedTies
import Derived.KernelRfl
namespace Go.Proofs.YtechodbafnmddaaGreatDoor
/- THE CELL 'sum', in the pinned program and in every row, IS THE sha256 OF THE DUMP (.gsa) THAT YtechodbafnmddaaGreatDoorProg.lean LOADS. Nothing in Lean hashes anything: it is a label: what it is worth is what the hold of that sum in a sandbox is worth. -/
noncomputable def Tryz.pinned : Pinned := { name := "ytechodbafnmddaagreatdoor", sum := "838129c83be5b7a5e4788b9e3706cb63a2b19aa4f6b9f010ea641865e747f163", checked := Tryz.checked }
namespace Rows
def none {H : Type} : Left H := { results := [], args := [] }

/- WHAT THE LISTED PACKAGE-LEVEL VARIABLES READ AS WHEN THE CALL BEGINS. Each datum BY PROGRAM (the guide's laid-datum.mjs) off the statement by which the dump's own 'gosem.cut.vars' lays the variable. In a bare row this is a premise. The card (YtechodbafnmddaaGreatDoorCards.lean) ties it to the program's text. -/
def laid_unicode_utf8_acceptRanges {H : Type} : DataW H := .agg [.agg [.lit (.int .u8 128), .lit (.int .u8 191)], .agg [.lit (.int .u8 160), .lit (.int .u8 191)], .agg [.lit (.int .u8 128), .lit (.int .u8 159)], .agg [.lit (.int .u8 144), .lit (.int .u8 191)], .agg [.lit (.int .u8 128), .lit (.int .u8 143)], .agg [.lit (.int .u8 0), .lit (.int .u8 0)], .agg [.lit (.int .u8 0), .lit (.int .u8 0)], .agg [.lit (.int .u8 0), .lit (.int .u8 0)], .agg [.lit (.int .u8 0), .lit (.int .u8 0)], .agg [.lit (.int .u8 0), .lit (.int .u8 0)], .agg [.lit (.int .u8 0), .lit (.int .u8 0)], .agg [.lit (.int .u8 0), .lit (.int .u8 0)], .agg [.lit (.int .u8 0), .lit (.int .u8 0)], .agg [.lit (.int .u8 0), .lit (.int .u8 0)], .agg [.lit (.int .u8 0), .lit (.int .u8 0)], .agg [.lit (.int .u8 0), .lit (.int .u8 0)]]
/-- One of Go's own tables, pinned by name: the form's constant. -/
def laid_unicode_utf8_first : DataW Unit := Go.Pinned.utf8First

/-- 'laws.FnExactWorstLink': WHATEVER THE INPUT: true; the input reads as it did. -/
def fnExactWorstLinkSpec : ChangeSpec := { name := "fnExactWorstLink", fn := fun _ => fun
  | [d1, d2, d3, d4, d5, d6, d7] => { results := [.lit (.bool true)], args := [d1, d2, d3, d4, d5, d6, d7] }
  | _ => none }
def fnExactWorstLinkRow : OpenClaim := { program := "ytechodbafnmddaagreatdoor", sum := "838129c83be5b7a5e4788b9e3706cb63a2b19aa4f6b9f010ea641865e747f163", func := "loop.example/g00861/laws.FnExactWorstLink", spec := "fnExactWorstLink", inPlace := ["internal/bytealg.IndexByteString", "internal/bytealg.IndexString"], unfollowed := true, recurses := true, named := ["unicode/utf8.first", "unicode/utf8.acceptRanges", "internal/bytealg.MaxLen"], apart := false, laid := [("unicode/utf8.acceptRanges", laid_unicode_utf8_acceptRanges), ("unicode/utf8.first", laid_unicode_utf8_first)] }
def FnExactWorstLinkSaid : Prop := fnExactWorstLinkRow.holds Tryz.pinned (OpenSpec.ofChange fnExactWorstLinkSpec)

/-- ITS FALSE NEIGHBOUR: 'it returns false'. Refute it at one input. -/
def fnExactWorstLinkWrong : ChangeSpec := { name := "fnExactWorstLink", fn := fun _ => fun
  | [d1, d2, d3, d4, d5, d6, d7] => { results := [.lit (.bool false)], args := [d1, d2, d3, d4, d5, d6, d7] }
  | _ => none }
def FnExactWorstLinkWrongFalsely : Prop := fnExactWorstLinkRow.holds Tryz.pinned (OpenSpec.ofChange fnExactWorstLinkWrong)

/-- 'laws.FnExactNodeTiming': WHATEVER THE INPUT: true; the input reads as it did. -/
def fnExactNodeTimingSpec : ChangeSpec := { name := "fnExactNodeTiming", fn := fun _ => fun
  | [d1, d2, d3, d4, d5, d6] => { results := [.lit (.bool true)], args := [d1, d2, d3, d4, d5, d6] }
  | _ => none }
def fnExactNodeTimingRow : OpenClaim := { program := "ytechodbafnmddaagreatdoor", sum := "838129c83be5b7a5e4788b9e3706cb63a2b19aa4f6b9f010ea641865e747f163", func := "loop.example/g00861/laws.FnExactNodeTiming", spec := "fnExactNodeTiming", inPlace := ["internal/bytealg.IndexByteString", "internal/bytealg.IndexString"], unfollowed := true, recurses := true, named := ["unicode/utf8.first", "unicode/utf8.acceptRanges", "internal/bytealg.MaxLen"], apart := false, laid := [("unicode/utf8.acceptRanges", laid_unicode_utf8_acceptRanges), ("unicode/utf8.first", laid_unicode_utf8_first)] }
def FnExactNodeTimingSaid : Prop := fnExactNodeTimingRow.holds Tryz.pinned (OpenSpec.ofChange fnExactNodeTimingSpec)

/-- ITS FALSE NEIGHBOUR: 'it returns false'. Refute it at one input. -/
def fnExactNodeTimingWrong : ChangeSpec := { name := "fnExactNodeTiming", fn := fun _ => fun
  | [d1, d2, d3, d4, d5, d6] => { results := [.lit (.bool false)], args := [d1, d2, d3, d4, d5, d6] }
  | _ => none }
def FnExactNodeTimingWrongFalsely : Prop := fnExactNodeTimingRow.holds Tryz.pinned (OpenSpec.ofChange fnExactNodeTimingWrong)

/-- 'laws.FnExactPropagateTiming': WHATEVER THE INPUT: true; the input reads as it did. -/
def fnExactPropagateTimingSpec : ChangeSpec := { name := "fnExactPropagateTiming", fn := fun _ => fun
  | [d1, d2, d3, d4] => { results := [.lit (.bool true)], args := [d1, d2, d3, d4] }
  | _ => none }
def fnExactPropagateTimingRow : OpenClaim := { program := "ytechodbafnmddaagreatdoor", sum := "838129c83be5b7a5e4788b9e3706cb63a2b19aa4f6b9f010ea641865e747f163", func := "loop.example/g00861/laws.FnExactPropagateTiming", spec := "fnExactPropagateTiming", inPlace := ["internal/bytealg.IndexByteString", "internal/bytealg.IndexString"], unfollowed := true, recurses := true, named := ["unicode/utf8.first", "unicode/utf8.acceptRanges", "internal/bytealg.MaxLen"], apart := false, laid := [("unicode/utf8.acceptRanges", laid_unicode_utf8_acceptRanges), ("unicode/utf8.first", laid_unicode_utf8_first)] }
def FnExactPropagateTimingSaid : Prop := fnExactPropagateTimingRow.holds Tryz.pinned (OpenSpec.ofChange fnExactPropagateTimingSpec)

/-- ITS FALSE NEIGHBOUR: 'it returns false'. Refute it at one input. -/
def fnExactPropagateTimingWrong : ChangeSpec := { name := "fnExactPropagateTiming", fn := fun _ => fun
  | [d1, d2, d3, d4] => { results := [.lit (.bool false)], args := [d1, d2, d3, d4] }
  | _ => none }
def FnExactPropagateTimingWrongFalsely : Prop := fnExactPropagateTimingRow.holds Tryz.pinned (OpenSpec.ofChange fnExactPropagateTimingWrong)

/-- 'laws.FnExactWorstPath': WHATEVER THE INPUT: true; the input reads as it did. -/
def fnExactWorstPathSpec : ChangeSpec := { name := "fnExactWorstPath", fn := fun _ => fun
  | [d1, d2, d3, d4, d5, d6, d7] => { results := [.lit (.bool true)], args := [d1, d2, d3, d4, d5, d6, d7] }
  | _ => none }
def fnExactWorstPathRow : OpenClaim := { program := "ytechodbafnmddaagreatdoor", sum := "838129c83be5b7a5e4788b9e3706cb63a2b19aa4f6b9f010ea641865e747f163", func := "loop.example/g00861/laws.FnExactWorstPath", spec := "fnExactWorstPath", inPlace := ["internal/bytealg.IndexByteString", "internal/bytealg.IndexString"], unfollowed := true, recurses := true, named := ["unicode/utf8.first", "unicode/utf8.acceptRanges", "internal/bytealg.MaxLen"], apart := false, laid := [("unicode/utf8.acceptRanges", laid_unicode_utf8_acceptRanges), ("unicode/utf8.first", laid_unicode_utf8_first)] }
def FnExactWorstPathSaid : Prop := fnExactWorstPathRow.holds Tryz.pinned (OpenSpec.ofChange fnExactWorstPathSpec)

/-- ITS FALSE NEIGHBOUR: 'it returns false'. Refute it at one input. -/
def fnExactWorstPathWrong : ChangeSpec := { name := "fnExactWorstPath", fn := fun _ => fun
  | [d1, d2, d3, d4, d5, d6, d7] => { results := [.lit (.bool false)], args := [d1, d2, d3, d4, d5, d6, d7] }
  | _ => none }
def FnExactWorstPathWrongFalsely : Prop := fnExactWorstPathRow.holds Tryz.pinned (OpenSpec.ofChange fnExactWorstPathWrong)

/- THE SECOND FORM. 'bulk': how many values and letters a reading holds, each counted each time it is reached (what is shared counts as often as it is met; a slice's spare places count too). A statement '..UptoSaid' is the law's where the arguments, and the package variables that the reading takes, are together of bulk at most 1048576: NARROWER than '..Said'. Prove '..Said' where nothing that the law and all that it calls make is longer than what came in: it says more and counts as full. Else prove '..UptoSaid'. A law counts once. -/
mutual
def uptoBulk {H : Type} : DataW H → Nat
  | .lit (.string bytes) => bytes.length + 1
  | .lit _ => 1
  | .nil => 1
  | .ptr d => uptoBulk d + 1
  | .slice elems spare => uptoBulkAll elems + uptoBulkAll spare + 1
  | .agg parts => uptoBulkAll parts + 1
  | .iface _ d => uptoBulk d + 1
  | .map entries => uptoBulkEntries entries + 1
  | .held _ => 1
def uptoBulkAll {H : Type} : List (DataW H) → Nat
  | [] => 0
  | d :: r => uptoBulk d + uptoBulkAll r
def uptoBulkEntries {H : Type} : List (Lit × DataW H) → Nat
  | [] => 0
  | x :: r => uptoBulkEntry x + uptoBulkEntries r
def uptoBulkEntry {H : Type} : Lit × DataW H → Nat
  | (.string bytes, d) => bytes.length + uptoBulk d + 1
  | (_, d) => uptoBulk d + 1
 end
def uptoSmall : (H : Type) → List (DataW H) → Bool := fun _ ds => decide (uptoBulkAll ds ≤ 1048576)
def OpenSpec.upto (s : _root_.Go.ChangeSpec) : _root_.Go.OpenSpec := { _root_.Go.OpenSpec.ofChange s with cond := some uptoSmall }

/-- 'laws.FnExactWorstLink', WHERE WHAT IT READS IS OF BULK AT MOST 1048576: true; the input reads as it did. -/
def fnExactWorstLinkUptoRow : OpenClaim := { program := "ytechodbafnmddaagreatdoor", sum := "838129c83be5b7a5e4788b9e3706cb63a2b19aa4f6b9f010ea641865e747f163", func := "loop.example/g00861/laws.FnExactWorstLink", spec := "fnExactWorstLink", inPlace := ["internal/bytealg.IndexByteString", "internal/bytealg.IndexString"], unfollowed := true, recurses := true, named := ["unicode/utf8.first", "unicode/utf8.acceptRanges", "internal/bytealg.MaxLen"], apart := false, laid := [("unicode/utf8.acceptRanges", laid_unicode_utf8_acceptRanges), ("unicode/utf8.first", laid_unicode_utf8_first)], narrowed := true }
def FnExactWorstLinkUptoSaid : Prop := fnExactWorstLinkUptoRow.holds Tryz.pinned (OpenSpec.upto fnExactWorstLinkSpec)

/-- 'laws.FnExactNodeTiming', WHERE WHAT IT READS IS OF BULK AT MOST 1048576: true; the input reads as it did. -/
def fnExactNodeTimingUptoRow : OpenClaim := { program := "ytechodbafnmddaagreatdoor", sum := "838129c83be5b7a5e4788b9e3706cb63a2b19aa4f6b9f010ea641865e747f163", func := "loop.example/g00861/laws.FnExactNodeTiming", spec := "fnExactNodeTiming", inPlace := ["internal/bytealg.IndexByteString", "internal/bytealg.IndexString"], unfollowed := true, recurses := true, named := ["unicode/utf8.first", "unicode/utf8.acceptRanges", "internal/bytealg.MaxLen"], apart := false, laid := [("unicode/utf8.acceptRanges", laid_unicode_utf8_acceptRanges), ("unicode/utf8.first", laid_unicode_utf8_first)], narrowed := true }
def FnExactNodeTimingUptoSaid : Prop := fnExactNodeTimingUptoRow.holds Tryz.pinned (OpenSpec.upto fnExactNodeTimingSpec)

/-- 'laws.FnExactPropagateTiming', WHERE WHAT IT READS IS OF BULK AT MOST 1048576: true; the input reads as it did. -/
def fnExactPropagateTimingUptoRow : OpenClaim := { program := "ytechodbafnmddaagreatdoor", sum := "838129c83be5b7a5e4788b9e3706cb63a2b19aa4f6b9f010ea641865e747f163", func := "loop.example/g00861/laws.FnExactPropagateTiming", spec := "fnExactPropagateTiming", inPlace := ["internal/bytealg.IndexByteString", "internal/bytealg.IndexString"], unfollowed := true, recurses := true, named := ["unicode/utf8.first", "unicode/utf8.acceptRanges", "internal/bytealg.MaxLen"], apart := false, laid := [("unicode/utf8.acceptRanges", laid_unicode_utf8_acceptRanges), ("unicode/utf8.first", laid_unicode_utf8_first)], narrowed := true }
def FnExactPropagateTimingUptoSaid : Prop := fnExactPropagateTimingUptoRow.holds Tryz.pinned (OpenSpec.upto fnExactPropagateTimingSpec)

/-- 'laws.FnExactWorstPath', WHERE WHAT IT READS IS OF BULK AT MOST 1048576: true; the input reads as it did. -/
def fnExactWorstPathUptoRow : OpenClaim := { program := "ytechodbafnmddaagreatdoor", sum := "838129c83be5b7a5e4788b9e3706cb63a2b19aa4f6b9f010ea641865e747f163", func := "loop.example/g00861/laws.FnExactWorstPath", spec := "fnExactWorstPath", inPlace := ["internal/bytealg.IndexByteString", "internal/bytealg.IndexString"], unfollowed := true, recurses := true, named := ["unicode/utf8.first", "unicode/utf8.acceptRanges", "internal/bytealg.MaxLen"], apart := false, laid := [("unicode/utf8.acceptRanges", laid_unicode_utf8_acceptRanges), ("unicode/utf8.first", laid_unicode_utf8_first)], narrowed := true }
def FnExactWorstPathUptoSaid : Prop := fnExactWorstPathUptoRow.holds Tryz.pinned (OpenSpec.upto fnExactWorstPathSpec)

end Rows
end Go.Proofs.YtechodbafnmddaaGreatDoor
