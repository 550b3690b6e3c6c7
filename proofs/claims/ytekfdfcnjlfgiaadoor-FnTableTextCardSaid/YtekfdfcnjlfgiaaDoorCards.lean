/-
  DERIVED. GIVEN WITH THE SEED: THE CARDS: each row of YtekfdfcnjlfgiaaDoorRows.lean that lists a variable, with what it lists TIED to the program's text (the seventh form; the later family's looks); each row that meets fmt, with fmt's text TOLD by the authors' own Lean function (tested against real Go, not proved from fmt's source: count such statements apart). THE CARD IS WHAT COUNTS. Prove the row's statement (the work); the ties are given (YtekfdfcnjlfgiaaDoorTie.lean); close each card by the builder's one call (the guide's Derived/Test/ToyasCard.lean, 'card_holds'). Laid BY PROGRAM, IN A SANDBOX (cutbox-door.mjs). By AI agents, Wed Nov 11 2026. No macro, syntax, notation, axiom, sorry.
-/
import Derived.Test.YtekfdfcnjlfgiaaDoorRows
import GoSem.ClaimSeven
namespace Go.Proofs.YtekfdfcnjlfgiaaDoor
namespace Rows

/-- THE TIED CARD OF 'laws.FnTableText'. -/
def fnTableTextCard : Claim7 := { stood := { row := fnTableTextRow, standIns := [], harness := (true, "3d651bd22388980d376e6967dd95a4f289ca811a9a3fffdeeba17afd4ee9451f"), looks := true }, kinds := [], alts := [], laidByText := true, laidKinds := [.data, .data, .data, .data, .sentinel, .sentinel, .pinned], laidTests := true, laidLooks := .later }
def FnTableTextCardSaid : Prop := Claim7.holds Tryd.pinned (.plain (OpenSpec.ofChange fnTableTextSpec)) fnTableTextCard

/-- THE SECOND FORM's CARD OF 'laws.FnTableText'. -/
def fnTableTextUptoCard : Claim7 := { stood := { row := fnTableTextUptoRow, standIns := [], harness := (true, "3d651bd22388980d376e6967dd95a4f289ca811a9a3fffdeeba17afd4ee9451f"), looks := true }, kinds := [], alts := [], laidByText := true, laidKinds := [.data, .data, .data, .data, .sentinel, .sentinel, .pinned], laidTests := true, laidLooks := .later }
def FnTableTextUptoCardSaid : Prop := Claim7.holds Tryd.pinned (.plain (OpenSpec.upto fnTableTextSpec)) fnTableTextUptoCard
end Rows
end Go.Proofs.YtekfdfcnjlfgiaaDoor
