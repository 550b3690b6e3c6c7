/-
  DERIVED. GIVEN WITH THE SEED: THE CARDS: each row of YticmgmebjmblgaaGreatDoorRows.lean that lists a variable, with what it lists TIED to the program's text (the seventh form; the later family's looks); each row that meets fmt, with fmt's text TOLD by the authors' own Lean function (tested against real Go, not proved from fmt's source: count such statements apart). THE CARD IS WHAT COUNTS. Prove the row's statement (the work); the ties are given (YticmgmebjmblgaaGreatDoorTie.lean); close each card by the builder's one call (the guide's Derived/Test/ToyasCard.lean, 'card_holds'). Laid BY PROGRAM, IN A SANDBOX (cutbox-door.mjs). By AI agents, Wed Nov 11 2026. No macro, syntax, notation, axiom, sorry.
-/
import Derived.Test.YticmgmebjmblgaaGreatDoorRows
import GoSem.ClaimSeven
namespace Go.Proofs.YticmgmebjmblgaaGreatDoor
namespace Rows

/-- THE TIED CARD OF 'laws.FnExactLinkSlew'. -/
def fnExactLinkSlewCard : Claim7 := { stood := { row := fnExactLinkSlewRow, standIns := [], harness := (true, "e3d6433cebd9a6142461d98f5c4b2af4fc1808c5c2157ad6a3d9a4544a466e87"), looks := false }, kinds := [], alts := [], laidByText := true, laidKinds := [.data, .pinned], laidTests := true, laidLooks := .later }
def FnExactLinkSlewCardSaid : Prop := Claim7.holds Tryz.pinned (.plain (OpenSpec.ofChange fnExactLinkSlewSpec)) fnExactLinkSlewCard

/-- THE TIED CARD OF 'laws.FnExactLinkDelay'. -/
def fnExactLinkDelayCard : Claim7 := { stood := { row := fnExactLinkDelayRow, standIns := [], harness := (true, "e3d6433cebd9a6142461d98f5c4b2af4fc1808c5c2157ad6a3d9a4544a466e87"), looks := false }, kinds := [], alts := [], laidByText := true, laidKinds := [.data, .pinned], laidTests := true, laidLooks := .later }
def FnExactLinkDelayCardSaid : Prop := Claim7.holds Tryz.pinned (.plain (OpenSpec.ofChange fnExactLinkDelaySpec)) fnExactLinkDelayCard

/-- THE TIED CARD OF 'laws.FnExactLinkDelayBounds'. -/
def fnExactLinkDelayBoundsCard : Claim7 := { stood := { row := fnExactLinkDelayBoundsRow, standIns := [], harness := (true, "e3d6433cebd9a6142461d98f5c4b2af4fc1808c5c2157ad6a3d9a4544a466e87"), looks := false }, kinds := [], alts := [], laidByText := true, laidKinds := [.data, .pinned], laidTests := true, laidLooks := .later }
def FnExactLinkDelayBoundsCardSaid : Prop := Claim7.holds Tryz.pinned (.plain (OpenSpec.ofChange fnExactLinkDelayBoundsSpec)) fnExactLinkDelayBoundsCard

/-- THE TIED CARD OF 'laws.FnExactStageDelay'. -/
def fnExactStageDelayCard : Claim7 := { stood := { row := fnExactStageDelayRow, standIns := [], harness := (true, "e3d6433cebd9a6142461d98f5c4b2af4fc1808c5c2157ad6a3d9a4544a466e87"), looks := false }, kinds := [], alts := [], laidByText := true, laidKinds := [.data, .pinned], laidTests := true, laidLooks := .later }
def FnExactStageDelayCardSaid : Prop := Claim7.holds Tryz.pinned (.plain (OpenSpec.ofChange fnExactStageDelaySpec)) fnExactStageDelayCard

/-- THE TIED CARD OF 'laws.FnExactLinkSpans'. -/
def fnExactLinkSpansCard : Claim7 := { stood := { row := fnExactLinkSpansRow, standIns := [], harness := (true, "e3d6433cebd9a6142461d98f5c4b2af4fc1808c5c2157ad6a3d9a4544a466e87"), looks := false }, kinds := [], alts := [], laidByText := true, laidKinds := [.data, .pinned], laidTests := true, laidLooks := .later }
def FnExactLinkSpansCardSaid : Prop := Claim7.holds Tryz.pinned (.plain (OpenSpec.ofChange fnExactLinkSpansSpec)) fnExactLinkSpansCard

/-- THE TIED CARD OF 'laws.FnExactHasLoop'. -/
def fnExactHasLoopCard : Claim7 := { stood := { row := fnExactHasLoopRow, standIns := [], harness := (true, "e3d6433cebd9a6142461d98f5c4b2af4fc1808c5c2157ad6a3d9a4544a466e87"), looks := false }, kinds := [], alts := [], laidByText := true, laidKinds := [.data, .pinned], laidTests := true, laidLooks := .later }
def FnExactHasLoopCardSaid : Prop := Claim7.holds Tryz.pinned (.plain (OpenSpec.ofChange fnExactHasLoopSpec)) fnExactHasLoopCard

/-- THE TIED CARD OF 'laws.FnExactIsMinimalBreak'. -/
def fnExactIsMinimalBreakCard : Claim7 := { stood := { row := fnExactIsMinimalBreakRow, standIns := [], harness := (true, "e3d6433cebd9a6142461d98f5c4b2af4fc1808c5c2157ad6a3d9a4544a466e87"), looks := false }, kinds := [], alts := [], laidByText := true, laidKinds := [.data, .pinned], laidTests := true, laidLooks := .later }
def FnExactIsMinimalBreakCardSaid : Prop := Claim7.holds Tryz.pinned (.plain (OpenSpec.ofChange fnExactIsMinimalBreakSpec)) fnExactIsMinimalBreakCard

/-- THE SECOND FORM's CARD OF 'laws.FnExactLinkSlew'. -/
def fnExactLinkSlewUptoCard : Claim7 := { stood := { row := fnExactLinkSlewUptoRow, standIns := [], harness := (true, "e3d6433cebd9a6142461d98f5c4b2af4fc1808c5c2157ad6a3d9a4544a466e87"), looks := false }, kinds := [], alts := [], laidByText := true, laidKinds := [.data, .pinned], laidTests := true, laidLooks := .later }
def FnExactLinkSlewUptoCardSaid : Prop := Claim7.holds Tryz.pinned (.plain (OpenSpec.upto fnExactLinkSlewSpec)) fnExactLinkSlewUptoCard

/-- THE SECOND FORM's CARD OF 'laws.FnExactLinkDelay'. -/
def fnExactLinkDelayUptoCard : Claim7 := { stood := { row := fnExactLinkDelayUptoRow, standIns := [], harness := (true, "e3d6433cebd9a6142461d98f5c4b2af4fc1808c5c2157ad6a3d9a4544a466e87"), looks := false }, kinds := [], alts := [], laidByText := true, laidKinds := [.data, .pinned], laidTests := true, laidLooks := .later }
def FnExactLinkDelayUptoCardSaid : Prop := Claim7.holds Tryz.pinned (.plain (OpenSpec.upto fnExactLinkDelaySpec)) fnExactLinkDelayUptoCard

/-- THE SECOND FORM's CARD OF 'laws.FnExactLinkDelayBounds'. -/
def fnExactLinkDelayBoundsUptoCard : Claim7 := { stood := { row := fnExactLinkDelayBoundsUptoRow, standIns := [], harness := (true, "e3d6433cebd9a6142461d98f5c4b2af4fc1808c5c2157ad6a3d9a4544a466e87"), looks := false }, kinds := [], alts := [], laidByText := true, laidKinds := [.data, .pinned], laidTests := true, laidLooks := .later }
def FnExactLinkDelayBoundsUptoCardSaid : Prop := Claim7.holds Tryz.pinned (.plain (OpenSpec.upto fnExactLinkDelayBoundsSpec)) fnExactLinkDelayBoundsUptoCard

/-- THE SECOND FORM's CARD OF 'laws.FnExactStageDelay'. -/
def fnExactStageDelayUptoCard : Claim7 := { stood := { row := fnExactStageDelayUptoRow, standIns := [], harness := (true, "e3d6433cebd9a6142461d98f5c4b2af4fc1808c5c2157ad6a3d9a4544a466e87"), looks := false }, kinds := [], alts := [], laidByText := true, laidKinds := [.data, .pinned], laidTests := true, laidLooks := .later }
def FnExactStageDelayUptoCardSaid : Prop := Claim7.holds Tryz.pinned (.plain (OpenSpec.upto fnExactStageDelaySpec)) fnExactStageDelayUptoCard

/-- THE SECOND FORM's CARD OF 'laws.FnExactLinkSpans'. -/
def fnExactLinkSpansUptoCard : Claim7 := { stood := { row := fnExactLinkSpansUptoRow, standIns := [], harness := (true, "e3d6433cebd9a6142461d98f5c4b2af4fc1808c5c2157ad6a3d9a4544a466e87"), looks := false }, kinds := [], alts := [], laidByText := true, laidKinds := [.data, .pinned], laidTests := true, laidLooks := .later }
def FnExactLinkSpansUptoCardSaid : Prop := Claim7.holds Tryz.pinned (.plain (OpenSpec.upto fnExactLinkSpansSpec)) fnExactLinkSpansUptoCard

/-- THE SECOND FORM's CARD OF 'laws.FnExactHasLoop'. -/
def fnExactHasLoopUptoCard : Claim7 := { stood := { row := fnExactHasLoopUptoRow, standIns := [], harness := (true, "e3d6433cebd9a6142461d98f5c4b2af4fc1808c5c2157ad6a3d9a4544a466e87"), looks := false }, kinds := [], alts := [], laidByText := true, laidKinds := [.data, .pinned], laidTests := true, laidLooks := .later }
def FnExactHasLoopUptoCardSaid : Prop := Claim7.holds Tryz.pinned (.plain (OpenSpec.upto fnExactHasLoopSpec)) fnExactHasLoopUptoCard

/-- THE SECOND FORM's CARD OF 'laws.FnExactIsMinimalBreak'. -/
def fnExactIsMinimalBreakUptoCard : Claim7 := { stood := { row := fnExactIsMinimalBreakUptoRow, standIns := [], harness := (true, "e3d6433cebd9a6142461d98f5c4b2af4fc1808c5c2157ad6a3d9a4544a466e87"), looks := false }, kinds := [], alts := [], laidByText := true, laidKinds := [.data, .pinned], laidTests := true, laidLooks := .later }
def FnExactIsMinimalBreakUptoCardSaid : Prop := Claim7.holds Tryz.pinned (.plain (OpenSpec.upto fnExactIsMinimalBreakSpec)) fnExactIsMinimalBreakUptoCard
end Rows
end Go.Proofs.YticmgmebjmblgaaGreatDoor
