/-
  DERIVED. GIVEN WITH THE SEED: THE CARDS: each row of YtdjgagoledoaaaaGreatDoorRows.lean that lists a variable, with what it lists TIED to the program's text (the seventh form; the later family's looks); each row that meets fmt, with fmt's text TOLD by the authors' own Lean function (tested against real Go, not proved from fmt's source: count such statements apart). THE CARD IS WHAT COUNTS. Prove the row's statement (the work); the ties are given (YtdjgagoledoaaaaGreatDoorTie.lean); close each card by the builder's one call (the guide's Derived/Test/ToyasCard.lean, 'card_holds'). Laid BY PROGRAM, IN A SANDBOX (cutbox-door.mjs). By AI agents, Wed Nov 11 2026. No macro, syntax, notation, axiom, sorry.
-/
import Derived.Test.YtdjgagoledoaaaaGreatDoorRows
import GoSem.ClaimSeven
namespace Go.Proofs.YtdjgagoledoaaaaGreatDoor
namespace Rows

/-- THE TIED CARD OF 'laws.FnTimingFixed'. -/
def fnTimingFixedCard : Claim7 := { stood := { row := fnTimingFixedRow, standIns := [], harness := (true, "ac5561677e1e153ed403969269164d516c8123105742a4de5e9e1e2003713165"), looks := false }, kinds := [], alts := [], laidByText := true, laidKinds := [.data, .pinned], laidTests := true, laidLooks := .later }
def FnTimingFixedCardSaid : Prop := Claim7.holds Tryz.pinned (.plain (OpenSpec.ofChange fnTimingFixedSpec)) fnTimingFixedCard

/-- THE TIED CARD OF 'laws.FnShiftedSources'. -/
def fnShiftedSourcesCard : Claim7 := { stood := { row := fnShiftedSourcesRow, standIns := [], harness := (true, "ac5561677e1e153ed403969269164d516c8123105742a4de5e9e1e2003713165"), looks := false }, kinds := [], alts := [], laidByText := true, laidKinds := [.data, .pinned], laidTests := true, laidLooks := .later }
def FnShiftedSourcesCardSaid : Prop := Claim7.holds Tryz.pinned (.plain (OpenSpec.ofChange fnShiftedSourcesSpec)) fnShiftedSourcesCard

/-- THE TIED CARD OF 'laws.FnMoreSources'. -/
def fnMoreSourcesCard : Claim7 := { stood := { row := fnMoreSourcesRow, standIns := [], harness := (true, "ac5561677e1e153ed403969269164d516c8123105742a4de5e9e1e2003713165"), looks := false }, kinds := [], alts := [], laidByText := true, laidKinds := [.data, .pinned], laidTests := true, laidLooks := .later }
def FnMoreSourcesCardSaid : Prop := Claim7.holds Tryz.pinned (.plain (OpenSpec.ofChange fnMoreSourcesSpec)) fnMoreSourcesCard

/-- THE TIED CARD OF 'laws.FnArrivalPaths'. -/
def fnArrivalPathsCard : Claim7 := { stood := { row := fnArrivalPathsRow, standIns := [], harness := (true, "ac5561677e1e153ed403969269164d516c8123105742a4de5e9e1e2003713165"), looks := false }, kinds := [], alts := [], laidByText := true, laidKinds := [.data, .pinned], laidTests := true, laidLooks := .later }
def FnArrivalPathsCardSaid : Prop := Claim7.holds Tryz.pinned (.plain (OpenSpec.ofChange fnArrivalPathsSpec)) fnArrivalPathsCard

/-- THE SECOND FORM's CARD OF 'laws.FnTimingFixed'. -/
def fnTimingFixedUptoCard : Claim7 := { stood := { row := fnTimingFixedUptoRow, standIns := [], harness := (true, "ac5561677e1e153ed403969269164d516c8123105742a4de5e9e1e2003713165"), looks := false }, kinds := [], alts := [], laidByText := true, laidKinds := [.data, .pinned], laidTests := true, laidLooks := .later }
def FnTimingFixedUptoCardSaid : Prop := Claim7.holds Tryz.pinned (.plain (OpenSpec.upto fnTimingFixedSpec)) fnTimingFixedUptoCard

/-- THE SECOND FORM's CARD OF 'laws.FnShiftedSources'. -/
def fnShiftedSourcesUptoCard : Claim7 := { stood := { row := fnShiftedSourcesUptoRow, standIns := [], harness := (true, "ac5561677e1e153ed403969269164d516c8123105742a4de5e9e1e2003713165"), looks := false }, kinds := [], alts := [], laidByText := true, laidKinds := [.data, .pinned], laidTests := true, laidLooks := .later }
def FnShiftedSourcesUptoCardSaid : Prop := Claim7.holds Tryz.pinned (.plain (OpenSpec.upto fnShiftedSourcesSpec)) fnShiftedSourcesUptoCard

/-- THE SECOND FORM's CARD OF 'laws.FnMoreSources'. -/
def fnMoreSourcesUptoCard : Claim7 := { stood := { row := fnMoreSourcesUptoRow, standIns := [], harness := (true, "ac5561677e1e153ed403969269164d516c8123105742a4de5e9e1e2003713165"), looks := false }, kinds := [], alts := [], laidByText := true, laidKinds := [.data, .pinned], laidTests := true, laidLooks := .later }
def FnMoreSourcesUptoCardSaid : Prop := Claim7.holds Tryz.pinned (.plain (OpenSpec.upto fnMoreSourcesSpec)) fnMoreSourcesUptoCard

/-- THE SECOND FORM's CARD OF 'laws.FnArrivalPaths'. -/
def fnArrivalPathsUptoCard : Claim7 := { stood := { row := fnArrivalPathsUptoRow, standIns := [], harness := (true, "ac5561677e1e153ed403969269164d516c8123105742a4de5e9e1e2003713165"), looks := false }, kinds := [], alts := [], laidByText := true, laidKinds := [.data, .pinned], laidTests := true, laidLooks := .later }
def FnArrivalPathsUptoCardSaid : Prop := Claim7.holds Tryz.pinned (.plain (OpenSpec.upto fnArrivalPathsSpec)) fnArrivalPathsUptoCard
end Rows
end Go.Proofs.YtdjgagoledoaaaaGreatDoor
