/-
  NARROWER THAN 'FOR EVERY INPUT', by the rows' own cells (each row's printed sentence says how): FnExactSinkDelays: laid · FnExactLinksOf: laid · FnExactLinksFrom: laid · FnExactLinksTo: laid · FnExactTopologicalOrder: laid.
  DERIVED. THE GIVEN ROWS OF THIS SEAT. 5 by the template 'for every input the law returns true; each argument reads behind the call as it read before'; 0 by the template 'total and deterministic' (their statements: YtgmpfbpemmohnaaGreatDoorTotals.lean).
  GIVEN WITH THE SEED: the statements are not yours to turn. If you find one false, say at which input.
  Laid BY PROGRAM, IN A SANDBOX (cutbox-rows.mjs): the forced cells as the released guide's own fill.sh prints them over the translation b1c3440b90d31f6f… (all of the seat's roots in one cut). By AI agents, Wed Nov 11 2026. No macro, syntax, notation, axiom, sorry.
-/
import Derived.Test.YtgmpfbpemmohnaaGreatDoorChecked
import GoSem.PinnedTables
import GoSem.Claim
import GoSem.ClaimJoined
import GoSem.ClaimMapViews
import Derived.JoinedTies
import Derived.KernelRfl
namespace Go.Proofs.YtgmpfbpemmohnaaGreatDoor
/- THE CELL 'sum', in the pinned program and in every row, IS THE sha256 OF THE DUMP (.gsa) THAT YtgmpfbpemmohnaaGreatDoorProg.lean LOADS. Nothing in Lean hashes anything: it is a label: what it is worth is what the hold of that sum in a sandbox is worth. -/
noncomputable def Tryz.pinned : Pinned := { name := "ytgmpfbpemmohnaagreatdoor", sum := "b1c3440b90d31f6f70ddb285cac5639bd0f99fa50c8c52c89a3096a21aa65337", checked := Tryz.checked }
namespace Rows
def none {H : Type} : Left H := { results := [], args := [] }

/- WHAT THE LISTED PACKAGE-LEVEL VARIABLES READ AS WHEN THE CALL BEGINS. Each datum BY PROGRAM (the guide's laid-datum.mjs) off the statement by which the dump's own 'gosem.cut.vars' lays the variable. In a bare row this is a premise. The card (YtgmpfbpemmohnaaGreatDoorCards.lean) ties it to the program's text. -/
def laid_unicode_utf8_acceptRanges {H : Type} : DataW H := .agg [.agg [.lit (.int .u8 128), .lit (.int .u8 191)], .agg [.lit (.int .u8 160), .lit (.int .u8 191)], .agg [.lit (.int .u8 128), .lit (.int .u8 159)], .agg [.lit (.int .u8 144), .lit (.int .u8 191)], .agg [.lit (.int .u8 128), .lit (.int .u8 143)], .agg [.lit (.int .u8 0), .lit (.int .u8 0)], .agg [.lit (.int .u8 0), .lit (.int .u8 0)], .agg [.lit (.int .u8 0), .lit (.int .u8 0)], .agg [.lit (.int .u8 0), .lit (.int .u8 0)], .agg [.lit (.int .u8 0), .lit (.int .u8 0)], .agg [.lit (.int .u8 0), .lit (.int .u8 0)], .agg [.lit (.int .u8 0), .lit (.int .u8 0)], .agg [.lit (.int .u8 0), .lit (.int .u8 0)], .agg [.lit (.int .u8 0), .lit (.int .u8 0)], .agg [.lit (.int .u8 0), .lit (.int .u8 0)], .agg [.lit (.int .u8 0), .lit (.int .u8 0)]]
/-- One of Go's own tables, pinned by name: the form's constant. -/
def laid_unicode_utf8_first : DataW Unit := Go.Pinned.utf8First

/-- 'laws.FnExactSinkDelays': WHATEVER THE INPUT: true; the input reads as it did. -/
def fnExactSinkDelaysSpec : ChangeSpec := { name := "fnExactSinkDelays", fn := fun _ => fun
  | [d1, d2, d3] => { results := [.lit (.bool true)], args := [d1, d2, d3] }
  | _ => none }
def fnExactSinkDelaysRow : OpenClaim := { program := "ytgmpfbpemmohnaagreatdoor", sum := "b1c3440b90d31f6f70ddb285cac5639bd0f99fa50c8c52c89a3096a21aa65337", func := "loop.example/g00861/laws.FnExactSinkDelays", spec := "fnExactSinkDelays", inPlace := ["internal/bytealg.IndexByteString", "internal/bytealg.IndexString"], unfollowed := true, recurses := true, named := ["unicode/utf8.first", "unicode/utf8.acceptRanges", "internal/bytealg.MaxLen"], apart := false, laid := [("unicode/utf8.acceptRanges", laid_unicode_utf8_acceptRanges), ("unicode/utf8.first", laid_unicode_utf8_first)] }
def FnExactSinkDelaysSaid : Prop := fnExactSinkDelaysRow.holds Tryz.pinned (OpenSpec.ofChange fnExactSinkDelaysSpec)

/-- ITS FALSE NEIGHBOUR: 'it returns false'. Refute it at one input. -/
def fnExactSinkDelaysWrong : ChangeSpec := { name := "fnExactSinkDelays", fn := fun _ => fun
  | [d1, d2, d3] => { results := [.lit (.bool false)], args := [d1, d2, d3] }
  | _ => none }
def FnExactSinkDelaysWrongFalsely : Prop := fnExactSinkDelaysRow.holds Tryz.pinned (OpenSpec.ofChange fnExactSinkDelaysWrong)

/-- 'laws.FnExactLinksOf': WHATEVER THE INPUT: true; the input reads as it did. -/
def fnExactLinksOfSpec : ChangeSpec := { name := "fnExactLinksOf", fn := fun _ => fun
  | [d] => { results := [.lit (.bool true)], args := [d] }
  | _ => none }
def fnExactLinksOfRow : OpenClaim := { program := "ytgmpfbpemmohnaagreatdoor", sum := "b1c3440b90d31f6f70ddb285cac5639bd0f99fa50c8c52c89a3096a21aa65337", func := "loop.example/g00861/laws.FnExactLinksOf", spec := "fnExactLinksOf", inPlace := ["internal/bytealg.IndexByteString", "internal/bytealg.IndexString"], unfollowed := true, recurses := true, named := ["unicode/utf8.first", "unicode/utf8.acceptRanges", "internal/bytealg.MaxLen"], apart := false, laid := [("unicode/utf8.acceptRanges", laid_unicode_utf8_acceptRanges), ("unicode/utf8.first", laid_unicode_utf8_first)] }
def FnExactLinksOfSaid : Prop := fnExactLinksOfRow.holds Tryz.pinned (OpenSpec.ofChange fnExactLinksOfSpec)

/-- ITS FALSE NEIGHBOUR: 'it returns false'. Refute it at one input. -/
def fnExactLinksOfWrong : ChangeSpec := { name := "fnExactLinksOf", fn := fun _ => fun
  | [d] => { results := [.lit (.bool false)], args := [d] }
  | _ => none }
def FnExactLinksOfWrongFalsely : Prop := fnExactLinksOfRow.holds Tryz.pinned (OpenSpec.ofChange fnExactLinksOfWrong)

/-- 'laws.FnExactLinksFrom': WHATEVER THE INPUT: true; the input reads as it did. -/
def fnExactLinksFromSpec : ChangeSpec := { name := "fnExactLinksFrom", fn := fun _ => fun
  | [d1, d2, d3] => { results := [.lit (.bool true)], args := [d1, d2, d3] }
  | _ => none }
def fnExactLinksFromRow : OpenClaim := { program := "ytgmpfbpemmohnaagreatdoor", sum := "b1c3440b90d31f6f70ddb285cac5639bd0f99fa50c8c52c89a3096a21aa65337", func := "loop.example/g00861/laws.FnExactLinksFrom", spec := "fnExactLinksFrom", inPlace := ["internal/bytealg.IndexByteString", "internal/bytealg.IndexString"], unfollowed := true, recurses := true, named := ["unicode/utf8.first", "unicode/utf8.acceptRanges", "internal/bytealg.MaxLen"], apart := false, laid := [("unicode/utf8.acceptRanges", laid_unicode_utf8_acceptRanges), ("unicode/utf8.first", laid_unicode_utf8_first)] }
def FnExactLinksFromSaid : Prop := fnExactLinksFromRow.holds Tryz.pinned (OpenSpec.ofChange fnExactLinksFromSpec)

/-- ITS FALSE NEIGHBOUR: 'it returns false'. Refute it at one input. -/
def fnExactLinksFromWrong : ChangeSpec := { name := "fnExactLinksFrom", fn := fun _ => fun
  | [d1, d2, d3] => { results := [.lit (.bool false)], args := [d1, d2, d3] }
  | _ => none }
def FnExactLinksFromWrongFalsely : Prop := fnExactLinksFromRow.holds Tryz.pinned (OpenSpec.ofChange fnExactLinksFromWrong)

/-- 'laws.FnExactLinksTo': WHATEVER THE INPUT: true; the input reads as it did. -/
def fnExactLinksToSpec : ChangeSpec := { name := "fnExactLinksTo", fn := fun _ => fun
  | [d1, d2, d3] => { results := [.lit (.bool true)], args := [d1, d2, d3] }
  | _ => none }
def fnExactLinksToRow : OpenClaim := { program := "ytgmpfbpemmohnaagreatdoor", sum := "b1c3440b90d31f6f70ddb285cac5639bd0f99fa50c8c52c89a3096a21aa65337", func := "loop.example/g00861/laws.FnExactLinksTo", spec := "fnExactLinksTo", inPlace := ["internal/bytealg.IndexByteString", "internal/bytealg.IndexString"], unfollowed := true, recurses := true, named := ["unicode/utf8.first", "unicode/utf8.acceptRanges", "internal/bytealg.MaxLen"], apart := false, laid := [("unicode/utf8.acceptRanges", laid_unicode_utf8_acceptRanges), ("unicode/utf8.first", laid_unicode_utf8_first)] }
def FnExactLinksToSaid : Prop := fnExactLinksToRow.holds Tryz.pinned (OpenSpec.ofChange fnExactLinksToSpec)

/-- ITS FALSE NEIGHBOUR: 'it returns false'. Refute it at one input. -/
def fnExactLinksToWrong : ChangeSpec := { name := "fnExactLinksTo", fn := fun _ => fun
  | [d1, d2, d3] => { results := [.lit (.bool false)], args := [d1, d2, d3] }
  | _ => none }
def FnExactLinksToWrongFalsely : Prop := fnExactLinksToRow.holds Tryz.pinned (OpenSpec.ofChange fnExactLinksToWrong)

/-- 'laws.FnExactTopologicalOrder': WHATEVER THE INPUT: true; the input reads as it did. -/
def fnExactTopologicalOrderSpec : ChangeSpec := { name := "fnExactTopologicalOrder", fn := fun _ => fun
  | [d1, d2] => { results := [.lit (.bool true)], args := [d1, d2] }
  | _ => none }
def fnExactTopologicalOrderRow : OpenClaim := { program := "ytgmpfbpemmohnaagreatdoor", sum := "b1c3440b90d31f6f70ddb285cac5639bd0f99fa50c8c52c89a3096a21aa65337", func := "loop.example/g00861/laws.FnExactTopologicalOrder", spec := "fnExactTopologicalOrder", inPlace := ["internal/bytealg.IndexByteString", "internal/bytealg.IndexString"], unfollowed := true, recurses := true, named := ["unicode/utf8.first", "unicode/utf8.acceptRanges", "internal/bytealg.MaxLen"], apart := false, laid := [("unicode/utf8.acceptRanges", laid_unicode_utf8_acceptRanges), ("unicode/utf8.first", laid_unicode_utf8_first)] }
def FnExactTopologicalOrderSaid : Prop := fnExactTopologicalOrderRow.holds Tryz.pinned (OpenSpec.ofChange fnExactTopologicalOrderSpec)

/-- ITS FALSE NEIGHBOUR: 'it returns false'. Refute it at one input. -/
def fnExactTopologicalOrderWrong : ChangeSpec := { name := "fnExactTopologicalOrder", fn := fun _ => fun
  | [d1, d2] => { results := [.lit (.bool false)], args := [d1, d2] }
  | _ => none }
def FnExactTopologicalOrderWrongFalsely : Prop := fnExactTopologicalOrderRow.holds Tryz.pinned (OpenSpec.ofChange fnExactTopologicalOrderWrong)

/- THE SECOND FORM. 'bulk': how many values and letters a reading holds, each counted each time it is reached (what is shared counts as often as it is met; a slice's spare places count too). A statement '..UptoSaid' is the law's where the arguments, and the package variables that the reading takes, are together of bulk at most 1048576: NARROWER than '..Said'. Prove '..Said' where nothing that the law and all that it calls make is longer than what came in: it says more and counts as full. Else prove '..UptoSaid'. A law counts once. -/
mutual
def uptoBulk {H : Type} : DataW H → Nat
  | .lit (.string bytes) => bytes.length + 1
  | .lit _ => 1
  | .nil => 1
  | .ptr d => uptoBulk d + 1
  | .slice elems spare => uptoBulkAll elems + uptoBulkAll spare + 1
  | .agg parts => uptoBulkAll parts + 1
  | .iface _ d => uptoBulk d + 1
  | .map entries => uptoBulkEntries entries + 1
  | .held _ => 1
def uptoBulkAll {H : Type} : List (DataW H) → Nat
  | [] => 0
  | d :: r => uptoBulk d + uptoBulkAll r
def uptoBulkEntries {H : Type} : List (Lit × DataW H) → Nat
  | [] => 0
  | x :: r => uptoBulkEntry x + uptoBulkEntries r
def uptoBulkEntry {H : Type} : Lit × DataW H → Nat
  | (.string bytes, d) => bytes.length + uptoBulk d + 1
  | (_, d) => uptoBulk d + 1
 end
def uptoSmall : (H : Type) → List (DataW H) → Bool := fun _ ds => decide (uptoBulkAll ds ≤ 1048576)
def OpenSpec.upto (s : _root_.Go.ChangeSpec) : _root_.Go.OpenSpec := { _root_.Go.OpenSpec.ofChange s with cond := some uptoSmall }

/-- 'laws.FnExactSinkDelays', WHERE WHAT IT READS IS OF BULK AT MOST 1048576: true; the input reads as it did. -/
def fnExactSinkDelaysUptoRow : OpenClaim := { program := "ytgmpfbpemmohnaagreatdoor", sum := "b1c3440b90d31f6f70ddb285cac5639bd0f99fa50c8c52c89a3096a21aa65337", func := "loop.example/g00861/laws.FnExactSinkDelays", spec := "fnExactSinkDelays", inPlace := ["internal/bytealg.IndexByteString", "internal/bytealg.IndexString"], unfollowed := true, recurses := true, named := ["unicode/utf8.first", "unicode/utf8.acceptRanges", "internal/bytealg.MaxLen"], apart := false, laid := [("unicode/utf8.acceptRanges", laid_unicode_utf8_acceptRanges), ("unicode/utf8.first", laid_unicode_utf8_first)], narrowed := true }
def FnExactSinkDelaysUptoSaid : Prop := fnExactSinkDelaysUptoRow.holds Tryz.pinned (OpenSpec.upto fnExactSinkDelaysSpec)

/-- 'laws.FnExactLinksOf', WHERE WHAT IT READS IS OF BULK AT MOST 1048576: true; the input reads as it did. -/
def fnExactLinksOfUptoRow : OpenClaim := { program := "ytgmpfbpemmohnaagreatdoor", sum := "b1c3440b90d31f6f70ddb285cac5639bd0f99fa50c8c52c89a3096a21aa65337", func := "loop.example/g00861/laws.FnExactLinksOf", spec := "fnExactLinksOf", inPlace := ["internal/bytealg.IndexByteString", "internal/bytealg.IndexString"], unfollowed := true, recurses := true, named := ["unicode/utf8.first", "unicode/utf8.acceptRanges", "internal/bytealg.MaxLen"], apart := false, laid := [("unicode/utf8.acceptRanges", laid_unicode_utf8_acceptRanges), ("unicode/utf8.first", laid_unicode_utf8_first)], narrowed := true }
def FnExactLinksOfUptoSaid : Prop := fnExactLinksOfUptoRow.holds Tryz.pinned (OpenSpec.upto fnExactLinksOfSpec)

/-- 'laws.FnExactLinksFrom', WHERE WHAT IT READS IS OF BULK AT MOST 1048576: true; the input reads as it did. -/
def fnExactLinksFromUptoRow : OpenClaim := { program := "ytgmpfbpemmohnaagreatdoor", sum := "b1c3440b90d31f6f70ddb285cac5639bd0f99fa50c8c52c89a3096a21aa65337", func := "loop.example/g00861/laws.FnExactLinksFrom", spec := "fnExactLinksFrom", inPlace := ["internal/bytealg.IndexByteString", "internal/bytealg.IndexString"], unfollowed := true, recurses := true, named := ["unicode/utf8.first", "unicode/utf8.acceptRanges", "internal/bytealg.MaxLen"], apart := false, laid := [("unicode/utf8.acceptRanges", laid_unicode_utf8_acceptRanges), ("unicode/utf8.first", laid_unicode_utf8_first)], narrowed := true }
def FnExactLinksFromUptoSaid : Prop := fnExactLinksFromUptoRow.holds Tryz.pinned (OpenSpec.upto fnExactLinksFromSpec)

/-- 'laws.FnExactLinksTo', WHERE WHAT IT READS IS OF BULK AT MOST 1048576: true; the input reads as it did. -/
def fnExactLinksToUptoRow : OpenClaim := { program := "ytgmpfbpemmohnaagreatdoor", sum := "b1c3440b90d31f6f70ddb285cac5639bd0f99fa50c8c52c89a3096a21aa65337", func := "loop.example/g00861/laws.FnExactLinksTo", spec := "fnExactLinksTo", inPlace := ["internal/bytealg.IndexByteString", "internal/bytealg.IndexString"], unfollowed := true, recurses := true, named := ["unicode/utf8.first", "unicode/utf8.acceptRanges", "internal/bytealg.MaxLen"], apart := false, laid := [("unicode/utf8.acceptRanges", laid_unicode_utf8_acceptRanges), ("unicode/utf8.first", laid_unicode_utf8_first)], narrowed := true }
def FnExactLinksToUptoSaid : Prop := fnExactLinksToUptoRow.holds Tryz.pinned (OpenSpec.upto fnExactLinksToSpec)

/-- 'laws.FnExactTopologicalOrder', WHERE WHAT IT READS IS OF BULK AT MOST 1048576: true; the input reads as it did. -/
def fnExactTopologicalOrderUptoRow : OpenClaim := { program := "ytgmpfbpemmohnaagreatdoor", sum := "b1c3440b90d31f6f70ddb285cac5639bd0f99fa50c8c52c89a3096a21aa65337", func := "loop.example/g00861/laws.FnExactTopologicalOrder", spec := "fnExactTopologicalOrder", inPlace := ["internal/bytealg.IndexByteString", "internal/bytealg.IndexString"], unfollowed := true, recurses := true, named := ["unicode/utf8.first", "unicode/utf8.acceptRanges", "internal/bytealg.MaxLen"], apart := false, laid := [("unicode/utf8.acceptRanges", laid_unicode_utf8_acceptRanges), ("unicode/utf8.first", laid_unicode_utf8_first)], narrowed := true }
def FnExactTopologicalOrderUptoSaid : Prop := fnExactTopologicalOrderUptoRow.holds Tryz.pinned (OpenSpec.upto fnExactTopologicalOrderSpec)

end Rows
end Go.Proofs.YtgmpfbpemmohnaaGreatDoor
