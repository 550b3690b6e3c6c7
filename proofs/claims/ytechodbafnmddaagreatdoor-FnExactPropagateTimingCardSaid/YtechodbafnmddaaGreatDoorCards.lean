/-
  DERIVED. GIVEN WITH THE SEED: THE CARDS: each row of YtechodbafnmddaaGreatDoorRows.lean that lists a variable, with what it lists TIED to the program's text (the seventh form; the later family's looks); each row that meets fmt, with fmt's text TOLD by the authors' own Lean function (tested against real Go, not proved from fmt's source: count such statements apart). THE CARD IS WHAT COUNTS. Prove the row's statement (the work); the ties are given (YtechodbafnmddaaGreatDoorTie.lean); close each card by the builder's one call (the guide's Derived/Test/ToyasCard.lean, 'card_holds'). Laid BY PROGRAM, IN A SANDBOX (cutbox-door.mjs). By AI agents, Wed Nov 11 2026. No macro, syntax, notation, axiom, sorry.
-/
import Derived.Test.YtechodbafnmddaaGreatDoorRows
import GoSem.ClaimSeven
namespace Go.Proofs.YtechodbafnmddaaGreatDoor
namespace Rows

/-- THE TIED CARD OF 'laws.FnExactWorstLink'. -/
def fnExactWorstLinkCard : Claim7 := { stood := { row := fnExactWorstLinkRow, standIns := [], harness := (true, "f2f4f8de5dbeb64e60454a600e3868368a72182744cc6beefad0de7f2a0b072f"), looks := false }, kinds := [], alts := [], laidByText := true, laidKinds := [.data, .pinned], laidTests := true, laidLooks := .later }
def FnExactWorstLinkCardSaid : Prop := Claim7.holds Tryz.pinned (.plain (OpenSpec.ofChange fnExactWorstLinkSpec)) fnExactWorstLinkCard

/-- THE TIED CARD OF 'laws.FnExactNodeTiming'. -/
def fnExactNodeTimingCard : Claim7 := { stood := { row := fnExactNodeTimingRow, standIns := [], harness := (true, "f2f4f8de5dbeb64e60454a600e3868368a72182744cc6beefad0de7f2a0b072f"), looks := false }, kinds := [], alts := [], laidByText := true, laidKinds := [.data, .pinned], laidTests := true, laidLooks := .later }
def FnExactNodeTimingCardSaid : Prop := Claim7.holds Tryz.pinned (.plain (OpenSpec.ofChange fnExactNodeTimingSpec)) fnExactNodeTimingCard

/-- THE TIED CARD OF 'laws.FnExactPropagateTiming'. -/
def fnExactPropagateTimingCard : Claim7 := { stood := { row := fnExactPropagateTimingRow, standIns := [], harness := (true, "f2f4f8de5dbeb64e60454a600e3868368a72182744cc6beefad0de7f2a0b072f"), looks := false }, kinds := [], alts := [], laidByText := true, laidKinds := [.data, .pinned], laidTests := true, laidLooks := .later }
def FnExactPropagateTimingCardSaid : Prop := Claim7.holds Tryz.pinned (.plain (OpenSpec.ofChange fnExactPropagateTimingSpec)) fnExactPropagateTimingCard

/-- THE TIED CARD OF 'laws.FnExactWorstPath'. -/
def fnExactWorstPathCard : Claim7 := { stood := { row := fnExactWorstPathRow, standIns := [], harness := (true, "f2f4f8de5dbeb64e60454a600e3868368a72182744cc6beefad0de7f2a0b072f"), looks := false }, kinds := [], alts := [], laidByText := true, laidKinds := [.data, .pinned], laidTests := true, laidLooks := .later }
def FnExactWorstPathCardSaid : Prop := Claim7.holds Tryz.pinned (.plain (OpenSpec.ofChange fnExactWorstPathSpec)) fnExactWorstPathCard

/-- THE SECOND FORM's CARD OF 'laws.FnExactWorstLink'. -/
def fnExactWorstLinkUptoCard : Claim7 := { stood := { row := fnExactWorstLinkUptoRow, standIns := [], harness := (true, "f2f4f8de5dbeb64e60454a600e3868368a72182744cc6beefad0de7f2a0b072f"), looks := false }, kinds := [], alts := [], laidByText := true, laidKinds := [.data, .pinned], laidTests := true, laidLooks := .later }
def FnExactWorstLinkUptoCardSaid : Prop := Claim7.holds Tryz.pinned (.plain (OpenSpec.upto fnExactWorstLinkSpec)) fnExactWorstLinkUptoCard

/-- THE SECOND FORM's CARD OF 'laws.FnExactNodeTiming'. -/
def fnExactNodeTimingUptoCard : Claim7 := { stood := { row := fnExactNodeTimingUptoRow, standIns := [], harness := (true, "f2f4f8de5dbeb64e60454a600e3868368a72182744cc6beefad0de7f2a0b072f"), looks := false }, kinds := [], alts := [], laidByText := true, laidKinds := [.data, .pinned], laidTests := true, laidLooks := .later }
def FnExactNodeTimingUptoCardSaid : Prop := Claim7.holds Tryz.pinned (.plain (OpenSpec.upto fnExactNodeTimingSpec)) fnExactNodeTimingUptoCard

/-- THE SECOND FORM's CARD OF 'laws.FnExactPropagateTiming'. -/
def fnExactPropagateTimingUptoCard : Claim7 := { stood := { row := fnExactPropagateTimingUptoRow, standIns := [], harness := (true, "f2f4f8de5dbeb64e60454a600e3868368a72182744cc6beefad0de7f2a0b072f"), looks := false }, kinds := [], alts := [], laidByText := true, laidKinds := [.data, .pinned], laidTests := true, laidLooks := .later }
def FnExactPropagateTimingUptoCardSaid : Prop := Claim7.holds Tryz.pinned (.plain (OpenSpec.upto fnExactPropagateTimingSpec)) fnExactPropagateTimingUptoCard

/-- THE SECOND FORM's CARD OF 'laws.FnExactWorstPath'. -/
def fnExactWorstPathUptoCard : Claim7 := { stood := { row := fnExactWorstPathUptoRow, standIns := [], harness := (true, "f2f4f8de5dbeb64e60454a600e3868368a72182744cc6beefad0de7f2a0b072f"), looks := false }, kinds := [], alts := [], laidByText := true, laidKinds := [.data, .pinned], laidTests := true, laidLooks := .later }
def FnExactWorstPathUptoCardSaid : Prop := Claim7.holds Tryz.pinned (.plain (OpenSpec.upto fnExactWorstPathSpec)) fnExactWorstPathUptoCard
end Rows
end Go.Proofs.YtechodbafnmddaaGreatDoor
