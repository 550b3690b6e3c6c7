/-
  DERIVED. GIVEN WITH THE SEED: THE CARDS: each row of YtippccamjlfafaaGreatDoorRows.lean that lists a variable, with what it lists TIED to the program's text (the seventh form; the later family's looks); each row that meets fmt, with fmt's text TOLD by the authors' own Lean function (tested against real Go, not proved from fmt's source: count such statements apart). THE CARD IS WHAT COUNTS. Prove the row's statement (the work); the ties are given (YtippccamjlfafaaGreatDoorTie.lean); close each card by the builder's one call (the guide's Derived/Test/ToyasCard.lean, 'card_holds'). Laid BY PROGRAM, IN A SANDBOX (cutbox-door.mjs). By AI agents, Wed Nov 11 2026. No macro, syntax, notation, axiom, sorry.
-/
import Derived.Test.YtippccamjlfafaaGreatDoorRows
import GoSem.ClaimSeven
namespace Go.Proofs.YtippccamjlfafaaGreatDoor
namespace Rows

/-- THE TIED CARD OF 'laws.FnExactNodeCount'. -/
def fnExactNodeCountCard : Claim7 := { stood := { row := fnExactNodeCountRow, standIns := [], harness := (true, "7b57a4005a75257a31b5758205e0d561eea8d1a93620cc18d88519418aba8361"), looks := false }, kinds := [], alts := [], laidByText := true, laidKinds := [.data, .pinned], laidTests := true, laidLooks := .later }
def FnExactNodeCountCardSaid : Prop := Claim7.holds Tryz.pinned (.plain (OpenSpec.ofChange fnExactNodeCountSpec)) fnExactNodeCountCard

/-- THE TIED CARD OF 'laws.FnExactCheckTime'. -/
def fnExactCheckTimeCard : Claim7 := { stood := { row := fnExactCheckTimeRow, standIns := [], harness := (true, "7b57a4005a75257a31b5758205e0d561eea8d1a93620cc18d88519418aba8361"), looks := false }, kinds := [], alts := [], laidByText := true, laidKinds := [.data, .pinned], laidTests := true, laidLooks := .later }
def FnExactCheckTimeCardSaid : Prop := Claim7.holds Tryz.pinned (.plain (OpenSpec.ofChange fnExactCheckTimeSpec)) fnExactCheckTimeCard

/-- THE TIED CARD OF 'laws.FnExactNodeText'. -/
def fnExactNodeTextCard : Claim7 := { stood := { row := fnExactNodeTextRow, standIns := [], harness := (true, "7b57a4005a75257a31b5758205e0d561eea8d1a93620cc18d88519418aba8361"), looks := false }, kinds := [], alts := [], laidByText := true, laidKinds := [.data, .pinned], laidTests := true, laidLooks := .later }
def FnExactNodeTextCardSaid : Prop := Claim7.holds Tryz.pinned (.plain (OpenSpec.ofChange fnExactNodeTextSpec)) fnExactNodeTextCard

/-- THE TIED CARD OF 'laws.FnExactIsSources'. -/
def fnExactIsSourcesCard : Claim7 := { stood := { row := fnExactIsSourcesRow, standIns := [], harness := (true, "7b57a4005a75257a31b5758205e0d561eea8d1a93620cc18d88519418aba8361"), looks := false }, kinds := [], alts := [], laidByText := true, laidKinds := [.data, .pinned], laidTests := true, laidLooks := .later }
def FnExactIsSourcesCardSaid : Prop := Claim7.holds Tryz.pinned (.plain (OpenSpec.ofChange fnExactIsSourcesSpec)) fnExactIsSourcesCard

/-- THE TIED CARD OF 'laws.FnExactIsTiming'. -/
def fnExactIsTimingCard : Claim7 := { stood := { row := fnExactIsTimingRow, standIns := [], harness := (true, "7b57a4005a75257a31b5758205e0d561eea8d1a93620cc18d88519418aba8361"), looks := false }, kinds := [], alts := [], laidByText := true, laidKinds := [.data, .pinned], laidTests := true, laidLooks := .later }
def FnExactIsTimingCardSaid : Prop := Claim7.holds Tryz.pinned (.plain (OpenSpec.ofChange fnExactIsTimingSpec)) fnExactIsTimingCard

/-- THE SECOND FORM's CARD OF 'laws.FnExactNodeCount'. -/
def fnExactNodeCountUptoCard : Claim7 := { stood := { row := fnExactNodeCountUptoRow, standIns := [], harness := (true, "7b57a4005a75257a31b5758205e0d561eea8d1a93620cc18d88519418aba8361"), looks := false }, kinds := [], alts := [], laidByText := true, laidKinds := [.data, .pinned], laidTests := true, laidLooks := .later }
def FnExactNodeCountUptoCardSaid : Prop := Claim7.holds Tryz.pinned (.plain (OpenSpec.upto fnExactNodeCountSpec)) fnExactNodeCountUptoCard

/-- THE SECOND FORM's CARD OF 'laws.FnExactCheckTime'. -/
def fnExactCheckTimeUptoCard : Claim7 := { stood := { row := fnExactCheckTimeUptoRow, standIns := [], harness := (true, "7b57a4005a75257a31b5758205e0d561eea8d1a93620cc18d88519418aba8361"), looks := false }, kinds := [], alts := [], laidByText := true, laidKinds := [.data, .pinned], laidTests := true, laidLooks := .later }
def FnExactCheckTimeUptoCardSaid : Prop := Claim7.holds Tryz.pinned (.plain (OpenSpec.upto fnExactCheckTimeSpec)) fnExactCheckTimeUptoCard

/-- THE SECOND FORM's CARD OF 'laws.FnExactNodeText'. -/
def fnExactNodeTextUptoCard : Claim7 := { stood := { row := fnExactNodeTextUptoRow, standIns := [], harness := (true, "7b57a4005a75257a31b5758205e0d561eea8d1a93620cc18d88519418aba8361"), looks := false }, kinds := [], alts := [], laidByText := true, laidKinds := [.data, .pinned], laidTests := true, laidLooks := .later }
def FnExactNodeTextUptoCardSaid : Prop := Claim7.holds Tryz.pinned (.plain (OpenSpec.upto fnExactNodeTextSpec)) fnExactNodeTextUptoCard

/-- THE SECOND FORM's CARD OF 'laws.FnExactIsSources'. -/
def fnExactIsSourcesUptoCard : Claim7 := { stood := { row := fnExactIsSourcesUptoRow, standIns := [], harness := (true, "7b57a4005a75257a31b5758205e0d561eea8d1a93620cc18d88519418aba8361"), looks := false }, kinds := [], alts := [], laidByText := true, laidKinds := [.data, .pinned], laidTests := true, laidLooks := .later }
def FnExactIsSourcesUptoCardSaid : Prop := Claim7.holds Tryz.pinned (.plain (OpenSpec.upto fnExactIsSourcesSpec)) fnExactIsSourcesUptoCard

/-- THE SECOND FORM's CARD OF 'laws.FnExactIsTiming'. -/
def fnExactIsTimingUptoCard : Claim7 := { stood := { row := fnExactIsTimingUptoRow, standIns := [], harness := (true, "7b57a4005a75257a31b5758205e0d561eea8d1a93620cc18d88519418aba8361"), looks := false }, kinds := [], alts := [], laidByText := true, laidKinds := [.data, .pinned], laidTests := true, laidLooks := .later }
def FnExactIsTimingUptoCardSaid : Prop := Claim7.holds Tryz.pinned (.plain (OpenSpec.upto fnExactIsTimingSpec)) fnExactIsTimingUptoCard
end Rows
end Go.Proofs.YtippccamjlfafaaGreatDoor
