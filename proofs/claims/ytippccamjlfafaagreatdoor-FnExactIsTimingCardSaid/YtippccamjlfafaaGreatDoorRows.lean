/-
  NARROWER THAN 'FOR EVERY INPUT', by the rows' own cells (each row's printed sentence says how): FnExactNodeCount: laid · FnExactCheckTime: laid · FnExactNodeText: laid · FnExactIsSources: laid · FnExactIsTiming: laid.
  DERIVED. THE GIVEN ROWS OF THIS SEAT. 5 by the template 'for every input the law returns true; each argument reads behind the call as it read before'; 0 by the template 'total and deterministic' (their statements: YtippccamjlfafaaGreatDoorTotals.lean).
  GIVEN WITH THE SEED: the statements are not yours to turn. If you find one false, say at which input.
  Laid BY PROGRAM, IN A SANDBOX (cutbox-rows.mjs): the forced cells as the released guide's own fill.sh prints them over the translation 14df567f651f30bf… (all of the seat's roots in one cut). By AI agents, Wed Nov 11 2026. No macro, syntax, notation, axiom, sorry.
-/
import Derived.Test.YtippccamjlfafaaGreatDoorChecked
import GoSem.PinnedTables
import GoSem.Claim
import GoSem.ClaimJoined
import GoSem.ClaimMapViews
import Derived.JoinedTies
import Derived.KernelRfl
namespace Go.Proofs.YtippccamjlfafaaGreatDoor
/- THE CELL 'sum', in the pinned program and in every row, IS THE sha256 OF THE DUMP (.gsa) THAT YtippccamjlfafaaGreatDoorProg.lean LOADS. Nothing in Lean hashes anything: it is a label: what it is worth is what the hold of that sum in a sandbox is worth. -/
noncomputable def Tryz.pinned : Pinned := { name := "ytippccamjlfafaagreatdoor", sum := "14df567f651f30bf0db4fabe2c24775f99e330c4222b0cad3aadb7a80d2b46a3", checked := Tryz.checked }
namespace Rows
def none {H : Type} : Left H := { results := [], args := [] }

/- WHAT THE LISTED PACKAGE-LEVEL VARIABLES READ AS WHEN THE CALL BEGINS. Each datum BY PROGRAM (the guide's laid-datum.mjs) off the statement by which the dump's own 'gosem.cut.vars' lays the variable. In a bare row this is a premise. The card (YtippccamjlfafaaGreatDoorCards.lean) ties it to the program's text. -/
def laid_unicode_utf8_acceptRanges {H : Type} : DataW H := .agg [.agg [.lit (.int .u8 128), .lit (.int .u8 191)], .agg [.lit (.int .u8 160), .lit (.int .u8 191)], .agg [.lit (.int .u8 128), .lit (.int .u8 159)], .agg [.lit (.int .u8 144), .lit (.int .u8 191)], .agg [.lit (.int .u8 128), .lit (.int .u8 143)], .agg [.lit (.int .u8 0), .lit (.int .u8 0)], .agg [.lit (.int .u8 0), .lit (.int .u8 0)], .agg [.lit (.int .u8 0), .lit (.int .u8 0)], .agg [.lit (.int .u8 0), .lit (.int .u8 0)], .agg [.lit (.int .u8 0), .lit (.int .u8 0)], .agg [.lit (.int .u8 0), .lit (.int .u8 0)], .agg [.lit (.int .u8 0), .lit (.int .u8 0)], .agg [.lit (.int .u8 0), .lit (.int .u8 0)], .agg [.lit (.int .u8 0), .lit (.int .u8 0)], .agg [.lit (.int .u8 0), .lit (.int .u8 0)], .agg [.lit (.int .u8 0), .lit (.int .u8 0)]]
/-- One of Go's own tables, pinned by name: the form's constant. -/
def laid_unicode_utf8_first : DataW Unit := Go.Pinned.utf8First

/-- 'laws.FnExactNodeCount': WHATEVER THE INPUT: true; the input reads as it did. -/
def fnExactNodeCountSpec : ChangeSpec := { name := "fnExactNodeCount", fn := fun _ => fun
  | [d] => { results := [.lit (.bool true)], args := [d] }
  | _ => none }
def fnExactNodeCountRow : OpenClaim := { program := "ytippccamjlfafaagreatdoor", sum := "14df567f651f30bf0db4fabe2c24775f99e330c4222b0cad3aadb7a80d2b46a3", func := "loop.example/g00861/laws.FnExactNodeCount", spec := "fnExactNodeCount", inPlace := ["internal/bytealg.IndexByteString", "internal/bytealg.IndexString"], unfollowed := true, recurses := true, named := ["unicode/utf8.first", "unicode/utf8.acceptRanges", "internal/bytealg.MaxLen"], apart := false, laid := [("unicode/utf8.acceptRanges", laid_unicode_utf8_acceptRanges), ("unicode/utf8.first", laid_unicode_utf8_first)] }
def FnExactNodeCountSaid : Prop := fnExactNodeCountRow.holds Tryz.pinned (OpenSpec.ofChange fnExactNodeCountSpec)

/-- ITS FALSE NEIGHBOUR: 'it returns false'. Refute it at one input. -/
def fnExactNodeCountWrong : ChangeSpec := { name := "fnExactNodeCount", fn := fun _ => fun
  | [d] => { results := [.lit (.bool false)], args := [d] }
  | _ => none }
def FnExactNodeCountWrongFalsely : Prop := fnExactNodeCountRow.holds Tryz.pinned (OpenSpec.ofChange fnExactNodeCountWrong)

/-- 'laws.FnExactCheckTime': WHATEVER THE INPUT: true; the input reads as it did. -/
def fnExactCheckTimeSpec : ChangeSpec := { name := "fnExactCheckTime", fn := fun _ => fun
  | [d1, d2, d3, d4, d5, d6] => { results := [.lit (.bool true)], args := [d1, d2, d3, d4, d5, d6] }
  | _ => none }
def fnExactCheckTimeRow : OpenClaim := { program := "ytippccamjlfafaagreatdoor", sum := "14df567f651f30bf0db4fabe2c24775f99e330c4222b0cad3aadb7a80d2b46a3", func := "loop.example/g00861/laws.FnExactCheckTime", spec := "fnExactCheckTime", inPlace := ["internal/bytealg.IndexByteString", "internal/bytealg.IndexString"], unfollowed := true, recurses := true, named := ["unicode/utf8.first", "unicode/utf8.acceptRanges", "internal/bytealg.MaxLen"], apart := false, laid := [("unicode/utf8.acceptRanges", laid_unicode_utf8_acceptRanges), ("unicode/utf8.first", laid_unicode_utf8_first)] }
def FnExactCheckTimeSaid : Prop := fnExactCheckTimeRow.holds Tryz.pinned (OpenSpec.ofChange fnExactCheckTimeSpec)

/-- ITS FALSE NEIGHBOUR: 'it returns false'. Refute it at one input. -/
def fnExactCheckTimeWrong : ChangeSpec := { name := "fnExactCheckTime", fn := fun _ => fun
  | [d1, d2, d3, d4, d5, d6] => { results := [.lit (.bool false)], args := [d1, d2, d3, d4, d5, d6] }
  | _ => none }
def FnExactCheckTimeWrongFalsely : Prop := fnExactCheckTimeRow.holds Tryz.pinned (OpenSpec.ofChange fnExactCheckTimeWrong)

/-- 'laws.FnExactNodeText': WHATEVER THE INPUT: true; the input reads as it did. -/
def fnExactNodeTextSpec : ChangeSpec := { name := "fnExactNodeText", fn := fun _ => fun
  | [d1, d2] => { results := [.lit (.bool true)], args := [d1, d2] }
  | _ => none }
def fnExactNodeTextRow : OpenClaim := { program := "ytippccamjlfafaagreatdoor", sum := "14df567f651f30bf0db4fabe2c24775f99e330c4222b0cad3aadb7a80d2b46a3", func := "loop.example/g00861/laws.FnExactNodeText", spec := "fnExactNodeText", inPlace := ["internal/bytealg.IndexByteString", "internal/bytealg.IndexString"], unfollowed := true, recurses := true, named := ["unicode/utf8.first", "unicode/utf8.acceptRanges", "internal/bytealg.MaxLen"], apart := false, laid := [("unicode/utf8.acceptRanges", laid_unicode_utf8_acceptRanges), ("unicode/utf8.first", laid_unicode_utf8_first)] }
def FnExactNodeTextSaid : Prop := fnExactNodeTextRow.holds Tryz.pinned (OpenSpec.ofChange fnExactNodeTextSpec)

/-- ITS FALSE NEIGHBOUR: 'it returns false'. Refute it at one input. -/
def fnExactNodeTextWrong : ChangeSpec := { name := "fnExactNodeText", fn := fun _ => fun
  | [d1, d2] => { results := [.lit (.bool false)], args := [d1, d2] }
  | _ => none }
def FnExactNodeTextWrongFalsely : Prop := fnExactNodeTextRow.holds Tryz.pinned (OpenSpec.ofChange fnExactNodeTextWrong)

/-- 'laws.FnExactIsSources': WHATEVER THE INPUT: true; the input reads as it did. -/
def fnExactIsSourcesSpec : ChangeSpec := { name := "fnExactIsSources", fn := fun _ => fun
  | [d1, d2] => { results := [.lit (.bool true)], args := [d1, d2] }
  | _ => none }
def fnExactIsSourcesRow : OpenClaim := { program := "ytippccamjlfafaagreatdoor", sum := "14df567f651f30bf0db4fabe2c24775f99e330c4222b0cad3aadb7a80d2b46a3", func := "loop.example/g00861/laws.FnExactIsSources", spec := "fnExactIsSources", inPlace := ["internal/bytealg.IndexByteString", "internal/bytealg.IndexString"], unfollowed := true, recurses := true, named := ["unicode/utf8.first", "unicode/utf8.acceptRanges", "internal/bytealg.MaxLen"], apart := false, laid := [("unicode/utf8.acceptRanges", laid_unicode_utf8_acceptRanges), ("unicode/utf8.first", laid_unicode_utf8_first)] }
def FnExactIsSourcesSaid : Prop := fnExactIsSourcesRow.holds Tryz.pinned (OpenSpec.ofChange fnExactIsSourcesSpec)

/-- ITS FALSE NEIGHBOUR: 'it returns false'. Refute it at one input. -/
def fnExactIsSourcesWrong : ChangeSpec := { name := "fnExactIsSources", fn := fun _ => fun
  | [d1, d2] => { results := [.lit (.bool false)], args := [d1, d2] }
  | _ => none }
def FnExactIsSourcesWrongFalsely : Prop := fnExactIsSourcesRow.holds Tryz.pinned (OpenSpec.ofChange fnExactIsSourcesWrong)

/-- 'laws.FnExactIsTiming': WHATEVER THE INPUT: true; the input reads as it did. -/
def fnExactIsTimingSpec : ChangeSpec := { name := "fnExactIsTiming", fn := fun _ => fun
  | [d1, d2] => { results := [.lit (.bool true)], args := [d1, d2] }
  | _ => none }
def fnExactIsTimingRow : OpenClaim := { program := "ytippccamjlfafaagreatdoor", sum := "14df567f651f30bf0db4fabe2c24775f99e330c4222b0cad3aadb7a80d2b46a3", func := "loop.example/g00861/laws.FnExactIsTiming", spec := "fnExactIsTiming", inPlace := ["internal/bytealg.IndexByteString", "internal/bytealg.IndexString"], unfollowed := true, recurses := true, named := ["unicode/utf8.first", "unicode/utf8.acceptRanges", "internal/bytealg.MaxLen"], apart := false, laid := [("unicode/utf8.acceptRanges", laid_unicode_utf8_acceptRanges), ("unicode/utf8.first", laid_unicode_utf8_first)] }
def FnExactIsTimingSaid : Prop := fnExactIsTimingRow.holds Tryz.pinned (OpenSpec.ofChange fnExactIsTimingSpec)

/-- ITS FALSE NEIGHBOUR: 'it returns false'. Refute it at one input. -/
def fnExactIsTimingWrong : ChangeSpec := { name := "fnExactIsTiming", fn := fun _ => fun
  | [d1, d2] => { results := [.lit (.bool false)], args := [d1, d2] }
  | _ => none }
def FnExactIsTimingWrongFalsely : Prop := fnExactIsTimingRow.holds Tryz.pinned (OpenSpec.ofChange fnExactIsTimingWrong)

/- THE SECOND FORM. 'bulk': how many values and letters a reading holds, each counted each time it is reached (what is shared counts as often as it is met; a slice's spare places count too). A statement '..UptoSaid' is the law's where the arguments, and the package variables that the reading takes, are together of bulk at most 1048576: NARROWER than '..Said'. Prove '..Said' where nothing that the law and all that it calls make is longer than what came in: it says more and counts as full. Else prove '..UptoSaid'. A law counts once. -/
mutual
def uptoBulk {H : Type} : DataW H → Nat
  | .lit (.string bytes) => bytes.length + 1
  | .lit _ => 1
  | .nil => 1
  | .ptr d => uptoBulk d + 1
  | .slice elems spare => uptoBulkAll elems + uptoBulkAll spare + 1
  | .agg parts => uptoBulkAll parts + 1
  | .iface _ d => uptoBulk d + 1
  | .map entries => uptoBulkEntries entries + 1
  | .held _ => 1
def uptoBulkAll {H : Type} : List (DataW H) → Nat
  | [] => 0
  | d :: r => uptoBulk d + uptoBulkAll r
def uptoBulkEntries {H : Type} : List (Lit × DataW H) → Nat
  | [] => 0
  | x :: r => uptoBulkEntry x + uptoBulkEntries r
def uptoBulkEntry {H : Type} : Lit × DataW H → Nat
  | (.string bytes, d) => bytes.length + uptoBulk d + 1
  | (_, d) => uptoBulk d + 1
 end
def uptoSmall : (H : Type) → List (DataW H) → Bool := fun _ ds => decide (uptoBulkAll ds ≤ 1048576)
def OpenSpec.upto (s : _root_.Go.ChangeSpec) : _root_.Go.OpenSpec := { _root_.Go.OpenSpec.ofChange s with cond := some uptoSmall }

/-- 'laws.FnExactNodeCount', WHERE WHAT IT READS IS OF BULK AT MOST 1048576: true; the input reads as it did. -/
def fnExactNodeCountUptoRow : OpenClaim := { program := "ytippccamjlfafaagreatdoor", sum := "14df567f651f30bf0db4fabe2c24775f99e330c4222b0cad3aadb7a80d2b46a3", func := "loop.example/g00861/laws.FnExactNodeCount", spec := "fnExactNodeCount", inPlace := ["internal/bytealg.IndexByteString", "internal/bytealg.IndexString"], unfollowed := true, recurses := true, named := ["unicode/utf8.first", "unicode/utf8.acceptRanges", "internal/bytealg.MaxLen"], apart := false, laid := [("unicode/utf8.acceptRanges", laid_unicode_utf8_acceptRanges), ("unicode/utf8.first", laid_unicode_utf8_first)], narrowed := true }
def FnExactNodeCountUptoSaid : Prop := fnExactNodeCountUptoRow.holds Tryz.pinned (OpenSpec.upto fnExactNodeCountSpec)

/-- 'laws.FnExactCheckTime', WHERE WHAT IT READS IS OF BULK AT MOST 1048576: true; the input reads as it did. -/
def fnExactCheckTimeUptoRow : OpenClaim := { program := "ytippccamjlfafaagreatdoor", sum := "14df567f651f30bf0db4fabe2c24775f99e330c4222b0cad3aadb7a80d2b46a3", func := "loop.example/g00861/laws.FnExactCheckTime", spec := "fnExactCheckTime", inPlace := ["internal/bytealg.IndexByteString", "internal/bytealg.IndexString"], unfollowed := true, recurses := true, named := ["unicode/utf8.first", "unicode/utf8.acceptRanges", "internal/bytealg.MaxLen"], apart := false, laid := [("unicode/utf8.acceptRanges", laid_unicode_utf8_acceptRanges), ("unicode/utf8.first", laid_unicode_utf8_first)], narrowed := true }
def FnExactCheckTimeUptoSaid : Prop := fnExactCheckTimeUptoRow.holds Tryz.pinned (OpenSpec.upto fnExactCheckTimeSpec)

/-- 'laws.FnExactNodeText', WHERE WHAT IT READS IS OF BULK AT MOST 1048576: true; the input reads as it did. -/
def fnExactNodeTextUptoRow : OpenClaim := { program := "ytippccamjlfafaagreatdoor", sum := "14df567f651f30bf0db4fabe2c24775f99e330c4222b0cad3aadb7a80d2b46a3", func := "loop.example/g00861/laws.FnExactNodeText", spec := "fnExactNodeText", inPlace := ["internal/bytealg.IndexByteString", "internal/bytealg.IndexString"], unfollowed := true, recurses := true, named := ["unicode/utf8.first", "unicode/utf8.acceptRanges", "internal/bytealg.MaxLen"], apart := false, laid := [("unicode/utf8.acceptRanges", laid_unicode_utf8_acceptRanges), ("unicode/utf8.first", laid_unicode_utf8_first)], narrowed := true }
def FnExactNodeTextUptoSaid : Prop := fnExactNodeTextUptoRow.holds Tryz.pinned (OpenSpec.upto fnExactNodeTextSpec)

/-- 'laws.FnExactIsSources', WHERE WHAT IT READS IS OF BULK AT MOST 1048576: true; the input reads as it did. -/
def fnExactIsSourcesUptoRow : OpenClaim := { program := "ytippccamjlfafaagreatdoor", sum := "14df567f651f30bf0db4fabe2c24775f99e330c4222b0cad3aadb7a80d2b46a3", func := "loop.example/g00861/laws.FnExactIsSources", spec := "fnExactIsSources", inPlace := ["internal/bytealg.IndexByteString", "internal/bytealg.IndexString"], unfollowed := true, recurses := true, named := ["unicode/utf8.first", "unicode/utf8.acceptRanges", "internal/bytealg.MaxLen"], apart := false, laid := [("unicode/utf8.acceptRanges", laid_unicode_utf8_acceptRanges), ("unicode/utf8.first", laid_unicode_utf8_first)], narrowed := true }
def FnExactIsSourcesUptoSaid : Prop := fnExactIsSourcesUptoRow.holds Tryz.pinned (OpenSpec.upto fnExactIsSourcesSpec)

/-- 'laws.FnExactIsTiming', WHERE WHAT IT READS IS OF BULK AT MOST 1048576: true; the input reads as it did. -/
def fnExactIsTimingUptoRow : OpenClaim := { program := "ytippccamjlfafaagreatdoor", sum := "14df567f651f30bf0db4fabe2c24775f99e330c4222b0cad3aadb7a80d2b46a3", func := "loop.example/g00861/laws.FnExactIsTiming", spec := "fnExactIsTiming", inPlace := ["internal/bytealg.IndexByteString", "internal/bytealg.IndexString"], unfollowed := true, recurses := true, named := ["unicode/utf8.first", "unicode/utf8.acceptRanges", "internal/bytealg.MaxLen"], apart := false, laid := [("unicode/utf8.acceptRanges", laid_unicode_utf8_acceptRanges), ("unicode/utf8.first", laid_unicode_utf8_first)], narrowed := true }
def FnExactIsTimingUptoSaid : Prop := fnExactIsTimingUptoRow.holds Tryz.pinned (OpenSpec.upto fnExactIsTimingSpec)

end Rows
end Go.Proofs.YtippccamjlfafaaGreatDoor
