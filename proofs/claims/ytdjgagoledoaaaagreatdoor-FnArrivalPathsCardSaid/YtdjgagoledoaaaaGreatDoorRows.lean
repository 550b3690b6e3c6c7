/-
  NARROWER THAN 'FOR EVERY INPUT', by the rows' own cells (each row's printed sentence says how): FnTimingFixed: laid · FnShiftedSources: laid · FnMoreSources: laid · FnArrivalPaths: laid.
  DERIVED. THE GIVEN ROWS OF THIS SEAT. 4 by the template 'for every input the law returns true; each argument reads behind the call as it read before'; 0 by the template 'total and deterministic' (their statements: YtdjgagoledoaaaaGreatDoorTotals.lean).
  GIVEN WITH THE SEED: the statements are not yours to turn. If you find one false, say at which input.
  Laid BY PROGRAM, IN A SANDBOX (cutbox-rows.mjs): the forced cells as the released guide's own fill.sh prints them over the translation d15ccd5a05145f26… (all of the seat's roots in one cut). By AI agents, Wed Nov 11 2026. No macro, syntax, notation, axiom, sorry.
-/
import Derived.Test.YtdjgagoledoaaaaGreatDoorChecked
import GoSem.PinnedTables
import GoSem.Claim
import GoSem.ClaimJoined
import GoSem.ClaimMapViews
import Derived.JoinedTies
import Derived.KernelRfl
namespace Go.Proofs.YtdjgagoledoaaaaGreatDoor
/- THE CELL 'sum', in the pinned program and in every row, IS THE sha256 OF THE DUMP (.gsa) THAT YtdjgagoledoaaaaGreatDoorProg.lean LOADS. Nothing in Lean hashes anything: it is a label: what it is worth is what the hold of that sum in a sandbox is worth. -/
noncomputable def Tryz.pinned : Pinned := { name := "ytdjgagoledoaaaagreatdoor", sum := "d15ccd5a05145f262b114aede7a9dff24ad443001d52e308611260239c1556dd", checked := Tryz.checked }
namespace Rows
def none {H : Type} : Left H := { results := [], args := [] }

/- WHAT THE LISTED PACKAGE-LEVEL VARIABLES READ AS WHEN THE CALL BEGINS. Each datum BY PROGRAM (the guide's laid-datum.mjs) off the statement by which the dump's own 'gosem.cut.vars' lays the variable. In a bare row this is a premise. The card (YtdjgagoledoaaaaGreatDoorCards.lean) ties it to the program's text. -/
def laid_unicode_utf8_acceptRanges {H : Type} : DataW H := .agg [.agg [.lit (.int .u8 128), .lit (.int .u8 191)], .agg [.lit (.int .u8 160), .lit (.int .u8 191)], .agg [.lit (.int .u8 128), .lit (.int .u8 159)], .agg [.lit (.int .u8 144), .lit (.int .u8 191)], .agg [.lit (.int .u8 128), .lit (.int .u8 143)], .agg [.lit (.int .u8 0), .lit (.int .u8 0)], .agg [.lit (.int .u8 0), .lit (.int .u8 0)], .agg [.lit (.int .u8 0), .lit (.int .u8 0)], .agg [.lit (.int .u8 0), .lit (.int .u8 0)], .agg [.lit (.int .u8 0), .lit (.int .u8 0)], .agg [.lit (.int .u8 0), .lit (.int .u8 0)], .agg [.lit (.int .u8 0), .lit (.int .u8 0)], .agg [.lit (.int .u8 0), .lit (.int .u8 0)], .agg [.lit (.int .u8 0), .lit (.int .u8 0)], .agg [.lit (.int .u8 0), .lit (.int .u8 0)], .agg [.lit (.int .u8 0), .lit (.int .u8 0)]]
/-- One of Go's own tables, pinned by name: the form's constant. -/
def laid_unicode_utf8_first : DataW Unit := Go.Pinned.utf8First

/-- 'laws.FnTimingFixed': WHATEVER THE INPUT: true; the input reads as it did. -/
def fnTimingFixedSpec : ChangeSpec := { name := "fnTimingFixed", fn := fun _ => fun
  | [d] => { results := [.lit (.bool true)], args := [d] }
  | _ => none }
def fnTimingFixedRow : OpenClaim := { program := "ytdjgagoledoaaaagreatdoor", sum := "d15ccd5a05145f262b114aede7a9dff24ad443001d52e308611260239c1556dd", func := "loop.example/g00861/laws.FnTimingFixed", spec := "fnTimingFixed", inPlace := ["internal/bytealg.IndexByteString", "internal/bytealg.IndexString"], unfollowed := true, recurses := true, named := ["unicode/utf8.first", "unicode/utf8.acceptRanges", "internal/bytealg.MaxLen"], apart := false, laid := [("unicode/utf8.acceptRanges", laid_unicode_utf8_acceptRanges), ("unicode/utf8.first", laid_unicode_utf8_first)] }
def FnTimingFixedSaid : Prop := fnTimingFixedRow.holds Tryz.pinned (OpenSpec.ofChange fnTimingFixedSpec)

/-- ITS FALSE NEIGHBOUR: 'it returns false'. Refute it at one input. -/
def fnTimingFixedWrong : ChangeSpec := { name := "fnTimingFixed", fn := fun _ => fun
  | [d] => { results := [.lit (.bool false)], args := [d] }
  | _ => none }
def FnTimingFixedWrongFalsely : Prop := fnTimingFixedRow.holds Tryz.pinned (OpenSpec.ofChange fnTimingFixedWrong)

/-- 'laws.FnShiftedSources': WHATEVER THE INPUT: true; the input reads as it did. -/
def fnShiftedSourcesSpec : ChangeSpec := { name := "fnShiftedSources", fn := fun _ => fun
  | [d] => { results := [.lit (.bool true)], args := [d] }
  | _ => none }
def fnShiftedSourcesRow : OpenClaim := { program := "ytdjgagoledoaaaagreatdoor", sum := "d15ccd5a05145f262b114aede7a9dff24ad443001d52e308611260239c1556dd", func := "loop.example/g00861/laws.FnShiftedSources", spec := "fnShiftedSources", inPlace := ["internal/bytealg.IndexByteString", "internal/bytealg.IndexString"], unfollowed := true, recurses := true, named := ["unicode/utf8.first", "unicode/utf8.acceptRanges", "internal/bytealg.MaxLen"], apart := false, laid := [("unicode/utf8.acceptRanges", laid_unicode_utf8_acceptRanges), ("unicode/utf8.first", laid_unicode_utf8_first)] }
def FnShiftedSourcesSaid : Prop := fnShiftedSourcesRow.holds Tryz.pinned (OpenSpec.ofChange fnShiftedSourcesSpec)

/-- ITS FALSE NEIGHBOUR: 'it returns false'. Refute it at one input. -/
def fnShiftedSourcesWrong : ChangeSpec := { name := "fnShiftedSources", fn := fun _ => fun
  | [d] => { results := [.lit (.bool false)], args := [d] }
  | _ => none }
def FnShiftedSourcesWrongFalsely : Prop := fnShiftedSourcesRow.holds Tryz.pinned (OpenSpec.ofChange fnShiftedSourcesWrong)

/-- 'laws.FnMoreSources': WHATEVER THE INPUT: true; the input reads as it did. -/
def fnMoreSourcesSpec : ChangeSpec := { name := "fnMoreSources", fn := fun _ => fun
  | [d] => { results := [.lit (.bool true)], args := [d] }
  | _ => none }
def fnMoreSourcesRow : OpenClaim := { program := "ytdjgagoledoaaaagreatdoor", sum := "d15ccd5a05145f262b114aede7a9dff24ad443001d52e308611260239c1556dd", func := "loop.example/g00861/laws.FnMoreSources", spec := "fnMoreSources", inPlace := ["internal/bytealg.IndexByteString", "internal/bytealg.IndexString"], unfollowed := true, recurses := true, named := ["unicode/utf8.first", "unicode/utf8.acceptRanges", "internal/bytealg.MaxLen"], apart := false, laid := [("unicode/utf8.acceptRanges", laid_unicode_utf8_acceptRanges), ("unicode/utf8.first", laid_unicode_utf8_first)] }
def FnMoreSourcesSaid : Prop := fnMoreSourcesRow.holds Tryz.pinned (OpenSpec.ofChange fnMoreSourcesSpec)

/-- ITS FALSE NEIGHBOUR: 'it returns false'. Refute it at one input. -/
def fnMoreSourcesWrong : ChangeSpec := { name := "fnMoreSources", fn := fun _ => fun
  | [d] => { results := [.lit (.bool false)], args := [d] }
  | _ => none }
def FnMoreSourcesWrongFalsely : Prop := fnMoreSourcesRow.holds Tryz.pinned (OpenSpec.ofChange fnMoreSourcesWrong)

/-- 'laws.FnArrivalPaths': WHATEVER THE INPUT: true; the input reads as it did. -/
def fnArrivalPathsSpec : ChangeSpec := { name := "fnArrivalPaths", fn := fun _ => fun
  | [d] => { results := [.lit (.bool true)], args := [d] }
  | _ => none }
def fnArrivalPathsRow : OpenClaim := { program := "ytdjgagoledoaaaagreatdoor", sum := "d15ccd5a05145f262b114aede7a9dff24ad443001d52e308611260239c1556dd", func := "loop.example/g00861/laws.FnArrivalPaths", spec := "fnArrivalPaths", inPlace := ["internal/bytealg.IndexByteString", "internal/bytealg.IndexString"], unfollowed := true, recurses := true, named := ["unicode/utf8.first", "unicode/utf8.acceptRanges", "internal/bytealg.MaxLen"], apart := false, laid := [("unicode/utf8.acceptRanges", laid_unicode_utf8_acceptRanges), ("unicode/utf8.first", laid_unicode_utf8_first)] }
def FnArrivalPathsSaid : Prop := fnArrivalPathsRow.holds Tryz.pinned (OpenSpec.ofChange fnArrivalPathsSpec)

/-- ITS FALSE NEIGHBOUR: 'it returns false'. Refute it at one input. -/
def fnArrivalPathsWrong : ChangeSpec := { name := "fnArrivalPaths", fn := fun _ => fun
  | [d] => { results := [.lit (.bool false)], args := [d] }
  | _ => none }
def FnArrivalPathsWrongFalsely : Prop := fnArrivalPathsRow.holds Tryz.pinned (OpenSpec.ofChange fnArrivalPathsWrong)

/- THE SECOND FORM. 'bulk': how many values and letters a reading holds, each counted each time it is reached (what is shared counts as often as it is met; a slice's spare places count too). A statement '..UptoSaid' is the law's where the arguments, and the package variables that the reading takes, are together of bulk at most 1048576: NARROWER than '..Said'. Prove '..Said' where nothing that the law and all that it calls make is longer than what came in: it says more and counts as full. Else prove '..UptoSaid'. A law counts once. -/
mutual
def uptoBulk {H : Type} : DataW H → Nat
  | .lit (.string bytes) => bytes.length + 1
  | .lit _ => 1
  | .nil => 1
  | .ptr d => uptoBulk d + 1
  | .slice elems spare => uptoBulkAll elems + uptoBulkAll spare + 1
  | .agg parts => uptoBulkAll parts + 1
  | .iface _ d => uptoBulk d + 1
  | .map entries => uptoBulkEntries entries + 1
  | .held _ => 1
def uptoBulkAll {H : Type} : List (DataW H) → Nat
  | [] => 0
  | d :: r => uptoBulk d + uptoBulkAll r
def uptoBulkEntries {H : Type} : List (Lit × DataW H) → Nat
  | [] => 0
  | x :: r => uptoBulkEntry x + uptoBulkEntries r
def uptoBulkEntry {H : Type} : Lit × DataW H → Nat
  | (.string bytes, d) => bytes.length + uptoBulk d + 1
  | (_, d) => uptoBulk d + 1
 end
def uptoSmall : (H : Type) → List (DataW H) → Bool := fun _ ds => decide (uptoBulkAll ds ≤ 1048576)
def OpenSpec.upto (s : _root_.Go.ChangeSpec) : _root_.Go.OpenSpec := { _root_.Go.OpenSpec.ofChange s with cond := some uptoSmall }

/-- 'laws.FnTimingFixed', WHERE WHAT IT READS IS OF BULK AT MOST 1048576: true; the input reads as it did. -/
def fnTimingFixedUptoRow : OpenClaim := { program := "ytdjgagoledoaaaagreatdoor", sum := "d15ccd5a05145f262b114aede7a9dff24ad443001d52e308611260239c1556dd", func := "loop.example/g00861/laws.FnTimingFixed", spec := "fnTimingFixed", inPlace := ["internal/bytealg.IndexByteString", "internal/bytealg.IndexString"], unfollowed := true, recurses := true, named := ["unicode/utf8.first", "unicode/utf8.acceptRanges", "internal/bytealg.MaxLen"], apart := false, laid := [("unicode/utf8.acceptRanges", laid_unicode_utf8_acceptRanges), ("unicode/utf8.first", laid_unicode_utf8_first)], narrowed := true }
def FnTimingFixedUptoSaid : Prop := fnTimingFixedUptoRow.holds Tryz.pinned (OpenSpec.upto fnTimingFixedSpec)

/-- 'laws.FnShiftedSources', WHERE WHAT IT READS IS OF BULK AT MOST 1048576: true; the input reads as it did. -/
def fnShiftedSourcesUptoRow : OpenClaim := { program := "ytdjgagoledoaaaagreatdoor", sum := "d15ccd5a05145f262b114aede7a9dff24ad443001d52e308611260239c1556dd", func := "loop.example/g00861/laws.FnShiftedSources", spec := "fnShiftedSources", inPlace := ["internal/bytealg.IndexByteString", "internal/bytealg.IndexString"], unfollowed := true, recurses := true, named := ["unicode/utf8.first", "unicode/utf8.acceptRanges", "internal/bytealg.MaxLen"], apart := false, laid := [("unicode/utf8.acceptRanges", laid_unicode_utf8_acceptRanges), ("unicode/utf8.first", laid_unicode_utf8_first)], narrowed := true }
def FnShiftedSourcesUptoSaid : Prop := fnShiftedSourcesUptoRow.holds Tryz.pinned (OpenSpec.upto fnShiftedSourcesSpec)

/-- 'laws.FnMoreSources', WHERE WHAT IT READS IS OF BULK AT MOST 1048576: true; the input reads as it did. -/
def fnMoreSourcesUptoRow : OpenClaim := { program := "ytdjgagoledoaaaagreatdoor", sum := "d15ccd5a05145f262b114aede7a9dff24ad443001d52e308611260239c1556dd", func := "loop.example/g00861/laws.FnMoreSources", spec := "fnMoreSources", inPlace := ["internal/bytealg.IndexByteString", "internal/bytealg.IndexString"], unfollowed := true, recurses := true, named := ["unicode/utf8.first", "unicode/utf8.acceptRanges", "internal/bytealg.MaxLen"], apart := false, laid := [("unicode/utf8.acceptRanges", laid_unicode_utf8_acceptRanges), ("unicode/utf8.first", laid_unicode_utf8_first)], narrowed := true }
def FnMoreSourcesUptoSaid : Prop := fnMoreSourcesUptoRow.holds Tryz.pinned (OpenSpec.upto fnMoreSourcesSpec)

/-- 'laws.FnArrivalPaths', WHERE WHAT IT READS IS OF BULK AT MOST 1048576: true; the input reads as it did. -/
def fnArrivalPathsUptoRow : OpenClaim := { program := "ytdjgagoledoaaaagreatdoor", sum := "d15ccd5a05145f262b114aede7a9dff24ad443001d52e308611260239c1556dd", func := "loop.example/g00861/laws.FnArrivalPaths", spec := "fnArrivalPaths", inPlace := ["internal/bytealg.IndexByteString", "internal/bytealg.IndexString"], unfollowed := true, recurses := true, named := ["unicode/utf8.first", "unicode/utf8.acceptRanges", "internal/bytealg.MaxLen"], apart := false, laid := [("unicode/utf8.acceptRanges", laid_unicode_utf8_acceptRanges), ("unicode/utf8.first", laid_unicode_utf8_first)], narrowed := true }
def FnArrivalPathsUptoSaid : Prop := fnArrivalPathsUptoRow.holds Tryz.pinned (OpenSpec.upto fnArrivalPathsSpec)

end Rows
end Go.Proofs.YtdjgagoledoaaaaGreatDoor
