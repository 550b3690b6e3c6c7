/-
  DERIVED. GIVEN WITH THE SEED: THE CARDS: each row of YtphnknndgfgepaaGreatDoorRows.lean that lists a variable, with what it lists TIED to the program's text (the seventh form; the later family's looks); each row that meets fmt, with fmt's text TOLD by the authors' own Lean function (tested against real Go, not proved from fmt's source: count such statements apart). THE CARD IS WHAT COUNTS. Prove the row's statement (the work); the ties are given (YtphnknndgfgepaaGreatDoorTie.lean); close each card by the builder's one call (the guide's Derived/Test/ToyasCard.lean, 'card_holds'). Laid BY PROGRAM, IN A SANDBOX (cutbox-door.mjs). By AI agents, Wed Nov 11 2026. No macro, syntax, notation, axiom, sorry.
-/
import Derived.Test.YtphnknndgfgepaaGreatDoorRows
import GoSem.ClaimSeven
namespace Go.Proofs.YtphnknndgfgepaaGreatDoor
namespace Rows

/-- THE TIED CARD OF 'laws.FnOrder'. -/
def fnOrderCard : Claim7 := { stood := { row := fnOrderRow, standIns := [], harness := (true, "4fced83850f090ac84ee64b9ef49fcfe108c7b78473b53ae3743cec5e09ac3b0"), looks := false }, kinds := [], alts := [], laidByText := true, laidKinds := [.data, .pinned], laidTests := true, laidLooks := .later }
def FnOrderCardSaid : Prop := Claim7.holds Tryz.pinned (.plain (OpenSpec.ofChange fnOrderSpec)) fnOrderCard

/-- THE TIED CARD OF 'laws.FnLinks'. -/
def fnLinksCard : Claim7 := { stood := { row := fnLinksRow, standIns := [], harness := (true, "4fced83850f090ac84ee64b9ef49fcfe108c7b78473b53ae3743cec5e09ac3b0"), looks := false }, kinds := [], alts := [], laidByText := true, laidKinds := [.data, .pinned], laidTests := true, laidLooks := .later }
def FnLinksCardSaid : Prop := Claim7.holds Tryz.pinned (.plain (OpenSpec.ofChange fnLinksSpec)) fnLinksCard

/-- THE TIED CARD OF 'laws.FnCones'. -/
def fnConesCard : Claim7 := { stood := { row := fnConesRow, standIns := [], harness := (true, "4fced83850f090ac84ee64b9ef49fcfe108c7b78473b53ae3743cec5e09ac3b0"), looks := false }, kinds := [], alts := [], laidByText := true, laidKinds := [.data, .pinned], laidTests := true, laidLooks := .later }
def FnConesCardSaid : Prop := Claim7.holds Tryz.pinned (.plain (OpenSpec.ofChange fnConesSpec)) fnConesCard

/-- THE TIED CARD OF 'laws.FnLoops'. -/
def fnLoopsCard : Claim7 := { stood := { row := fnLoopsRow, standIns := [], harness := (true, "4fced83850f090ac84ee64b9ef49fcfe108c7b78473b53ae3743cec5e09ac3b0"), looks := false }, kinds := [], alts := [], laidByText := true, laidKinds := [.data, .pinned], laidTests := true, laidLooks := .later }
def FnLoopsCardSaid : Prop := Claim7.holds Tryz.pinned (.plain (OpenSpec.ofChange fnLoopsSpec)) fnLoopsCard

/-- THE TIED CARD OF 'laws.FnLoopReport'. -/
def fnLoopReportCard : Claim7 := { stood := { row := fnLoopReportRow, standIns := [], harness := (true, "4fced83850f090ac84ee64b9ef49fcfe108c7b78473b53ae3743cec5e09ac3b0"), looks := false }, kinds := [], alts := [], laidByText := true, laidKinds := [.data, .pinned], laidTests := true, laidLooks := .later }
def FnLoopReportCardSaid : Prop := Claim7.holds Tryz.pinned (.plain (OpenSpec.ofChange fnLoopReportSpec)) fnLoopReportCard

/-- THE TIED CARD OF 'laws.FnBreaks'. -/
def fnBreaksCard : Claim7 := { stood := { row := fnBreaksRow, standIns := [], harness := (true, "4fced83850f090ac84ee64b9ef49fcfe108c7b78473b53ae3743cec5e09ac3b0"), looks := false }, kinds := [], alts := [], laidByText := true, laidKinds := [.data, .pinned], laidTests := true, laidLooks := .later }
def FnBreaksCardSaid : Prop := Claim7.holds Tryz.pinned (.plain (OpenSpec.ofChange fnBreaksSpec)) fnBreaksCard

/-- THE TIED CARD OF 'laws.FnStages'. -/
def fnStagesCard : Claim7 := { stood := { row := fnStagesRow, standIns := [], harness := (true, "4fced83850f090ac84ee64b9ef49fcfe108c7b78473b53ae3743cec5e09ac3b0"), looks := false }, kinds := [], alts := [], laidByText := true, laidKinds := [.data, .pinned], laidTests := true, laidLooks := .later }
def FnStagesCardSaid : Prop := Claim7.holds Tryz.pinned (.plain (OpenSpec.ofChange fnStagesSpec)) fnStagesCard

/-- THE TIED CARD OF 'laws.FnDelayBounds'. -/
def fnDelayBoundsCard : Claim7 := { stood := { row := fnDelayBoundsRow, standIns := [], harness := (true, "4fced83850f090ac84ee64b9ef49fcfe108c7b78473b53ae3743cec5e09ac3b0"), looks := false }, kinds := [], alts := [], laidByText := true, laidKinds := [.data, .pinned], laidTests := true, laidLooks := .later }
def FnDelayBoundsCardSaid : Prop := Claim7.holds Tryz.pinned (.plain (OpenSpec.ofChange fnDelayBoundsSpec)) fnDelayBoundsCard

/-- THE TIED CARD OF 'laws.FnFactors'. -/
def fnFactorsCard : Claim7 := { stood := { row := fnFactorsRow, standIns := [], harness := (true, "4fced83850f090ac84ee64b9ef49fcfe108c7b78473b53ae3743cec5e09ac3b0"), looks := false }, kinds := [], alts := [], laidByText := true, laidKinds := [.data, .pinned], laidTests := true, laidLooks := .later }
def FnFactorsCardSaid : Prop := Claim7.holds Tryz.pinned (.plain (OpenSpec.ofChange fnFactorsSpec)) fnFactorsCard

/-- THE SECOND FORM's CARD OF 'laws.FnOrder'. -/
def fnOrderUptoCard : Claim7 := { stood := { row := fnOrderUptoRow, standIns := [], harness := (true, "4fced83850f090ac84ee64b9ef49fcfe108c7b78473b53ae3743cec5e09ac3b0"), looks := false }, kinds := [], alts := [], laidByText := true, laidKinds := [.data, .pinned], laidTests := true, laidLooks := .later }
def FnOrderUptoCardSaid : Prop := Claim7.holds Tryz.pinned (.plain (OpenSpec.upto fnOrderSpec)) fnOrderUptoCard

/-- THE SECOND FORM's CARD OF 'laws.FnLinks'. -/
def fnLinksUptoCard : Claim7 := { stood := { row := fnLinksUptoRow, standIns := [], harness := (true, "4fced83850f090ac84ee64b9ef49fcfe108c7b78473b53ae3743cec5e09ac3b0"), looks := false }, kinds := [], alts := [], laidByText := true, laidKinds := [.data, .pinned], laidTests := true, laidLooks := .later }
def FnLinksUptoCardSaid : Prop := Claim7.holds Tryz.pinned (.plain (OpenSpec.upto fnLinksSpec)) fnLinksUptoCard

/-- THE SECOND FORM's CARD OF 'laws.FnCones'. -/
def fnConesUptoCard : Claim7 := { stood := { row := fnConesUptoRow, standIns := [], harness := (true, "4fced83850f090ac84ee64b9ef49fcfe108c7b78473b53ae3743cec5e09ac3b0"), looks := false }, kinds := [], alts := [], laidByText := true, laidKinds := [.data, .pinned], laidTests := true, laidLooks := .later }
def FnConesUptoCardSaid : Prop := Claim7.holds Tryz.pinned (.plain (OpenSpec.upto fnConesSpec)) fnConesUptoCard

/-- THE SECOND FORM's CARD OF 'laws.FnLoops'. -/
def fnLoopsUptoCard : Claim7 := { stood := { row := fnLoopsUptoRow, standIns := [], harness := (true, "4fced83850f090ac84ee64b9ef49fcfe108c7b78473b53ae3743cec5e09ac3b0"), looks := false }, kinds := [], alts := [], laidByText := true, laidKinds := [.data, .pinned], laidTests := true, laidLooks := .later }
def FnLoopsUptoCardSaid : Prop := Claim7.holds Tryz.pinned (.plain (OpenSpec.upto fnLoopsSpec)) fnLoopsUptoCard

/-- THE SECOND FORM's CARD OF 'laws.FnLoopReport'. -/
def fnLoopReportUptoCard : Claim7 := { stood := { row := fnLoopReportUptoRow, standIns := [], harness := (true, "4fced83850f090ac84ee64b9ef49fcfe108c7b78473b53ae3743cec5e09ac3b0"), looks := false }, kinds := [], alts := [], laidByText := true, laidKinds := [.data, .pinned], laidTests := true, laidLooks := .later }
def FnLoopReportUptoCardSaid : Prop := Claim7.holds Tryz.pinned (.plain (OpenSpec.upto fnLoopReportSpec)) fnLoopReportUptoCard

/-- THE SECOND FORM's CARD OF 'laws.FnBreaks'. -/
def fnBreaksUptoCard : Claim7 := { stood := { row := fnBreaksUptoRow, standIns := [], harness := (true, "4fced83850f090ac84ee64b9ef49fcfe108c7b78473b53ae3743cec5e09ac3b0"), looks := false }, kinds := [], alts := [], laidByText := true, laidKinds := [.data, .pinned], laidTests := true, laidLooks := .later }
def FnBreaksUptoCardSaid : Prop := Claim7.holds Tryz.pinned (.plain (OpenSpec.upto fnBreaksSpec)) fnBreaksUptoCard

/-- THE SECOND FORM's CARD OF 'laws.FnStages'. -/
def fnStagesUptoCard : Claim7 := { stood := { row := fnStagesUptoRow, standIns := [], harness := (true, "4fced83850f090ac84ee64b9ef49fcfe108c7b78473b53ae3743cec5e09ac3b0"), looks := false }, kinds := [], alts := [], laidByText := true, laidKinds := [.data, .pinned], laidTests := true, laidLooks := .later }
def FnStagesUptoCardSaid : Prop := Claim7.holds Tryz.pinned (.plain (OpenSpec.upto fnStagesSpec)) fnStagesUptoCard

/-- THE SECOND FORM's CARD OF 'laws.FnDelayBounds'. -/
def fnDelayBoundsUptoCard : Claim7 := { stood := { row := fnDelayBoundsUptoRow, standIns := [], harness := (true, "4fced83850f090ac84ee64b9ef49fcfe108c7b78473b53ae3743cec5e09ac3b0"), looks := false }, kinds := [], alts := [], laidByText := true, laidKinds := [.data, .pinned], laidTests := true, laidLooks := .later }
def FnDelayBoundsUptoCardSaid : Prop := Claim7.holds Tryz.pinned (.plain (OpenSpec.upto fnDelayBoundsSpec)) fnDelayBoundsUptoCard

/-- THE SECOND FORM's CARD OF 'laws.FnFactors'. -/
def fnFactorsUptoCard : Claim7 := { stood := { row := fnFactorsUptoRow, standIns := [], harness := (true, "4fced83850f090ac84ee64b9ef49fcfe108c7b78473b53ae3743cec5e09ac3b0"), looks := false }, kinds := [], alts := [], laidByText := true, laidKinds := [.data, .pinned], laidTests := true, laidLooks := .later }
def FnFactorsUptoCardSaid : Prop := Claim7.holds Tryz.pinned (.plain (OpenSpec.upto fnFactorsSpec)) fnFactorsUptoCard
end Rows
end Go.Proofs.YtphnknndgfgepaaGreatDoor
