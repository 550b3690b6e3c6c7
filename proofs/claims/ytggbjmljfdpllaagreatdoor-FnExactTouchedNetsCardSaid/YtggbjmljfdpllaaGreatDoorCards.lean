/-
  DERIVED. GIVEN WITH THE SEED: THE CARDS: each row of YtggbjmljfdpllaaGreatDoorRows.lean that lists a variable, with what it lists TIED to the program's text (the seventh form; the later family's looks); each row that meets fmt, with fmt's text TOLD by the authors' own Lean function (tested against real Go, not proved from fmt's source: count such statements apart). THE CARD IS WHAT COUNTS. Prove the row's statement (the work); the ties are given (YtggbjmljfdpllaaGreatDoorTie.lean); close each card by the builder's one call (the guide's Derived/Test/ToyasCard.lean, 'card_holds'). Laid BY PROGRAM, IN A SANDBOX (cutbox-door.mjs). By AI agents, Wed Nov 11 2026. No macro, syntax, notation, axiom, sorry.
-/
import Derived.Test.YtggbjmljfdpllaaGreatDoorRows
import GoSem.ClaimSeven
namespace Go.Proofs.YtggbjmljfdpllaaGreatDoor
namespace Rows

/-- THE TIED CARD OF 'laws.FnExactTouchedNets'. -/
def fnExactTouchedNetsCard : Claim7 := { stood := { row := fnExactTouchedNetsRow, standIns := [], harness := (true, "766ff88b9416924a10b283e5a0f87bb2cde8332f9b566483c3c39f7395ee0762"), looks := false }, kinds := [], alts := [], laidByText := true, laidKinds := [.data, .pinned], laidTests := true, laidLooks := .later }
def FnExactTouchedNetsCardSaid : Prop := Claim7.holds Tryz.pinned (.plain (OpenSpec.ofChange fnExactTouchedNetsSpec)) fnExactTouchedNetsCard

/-- THE SECOND FORM's CARD OF 'laws.FnExactTouchedNets'. -/
def fnExactTouchedNetsUptoCard : Claim7 := { stood := { row := fnExactTouchedNetsUptoRow, standIns := [], harness := (true, "766ff88b9416924a10b283e5a0f87bb2cde8332f9b566483c3c39f7395ee0762"), looks := false }, kinds := [], alts := [], laidByText := true, laidKinds := [.data, .pinned], laidTests := true, laidLooks := .later }
def FnExactTouchedNetsUptoCardSaid : Prop := Claim7.holds Tryz.pinned (.plain (OpenSpec.upto fnExactTouchedNetsSpec)) fnExactTouchedNetsUptoCard
end Rows
end Go.Proofs.YtggbjmljfdpllaaGreatDoor
