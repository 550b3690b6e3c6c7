/-
  DERIVED. GIVEN WITH THE SEED: THE CARDS: each row of YtfggbbnnalflhaaGreatDoorRows.lean that lists a variable, with what it lists TIED to the program's text (the seventh form; the later family's looks); each row that meets fmt, with fmt's text TOLD by the authors' own Lean function (tested against real Go, not proved from fmt's source: count such statements apart). THE CARD IS WHAT COUNTS. Prove the row's statement (the work); the ties are given (YtfggbbnnalflhaaGreatDoorTie.lean); close each card by the builder's one call (the guide's Derived/Test/ToyasCard.lean, 'card_holds'). Laid BY PROGRAM, IN A SANDBOX (cutbox-door.mjs). By AI agents, Wed Nov 11 2026. No macro, syntax, notation, axiom, sorry.
-/
import Derived.Test.YtfggbbnnalflhaaGreatDoorRows
import GoSem.ClaimSeven
namespace Go.Proofs.YtfggbbnnalflhaaGreatDoor
namespace Rows

/-- THE TIED CARD OF 'laws.FnExactReadEdit'. -/
def fnExactReadEditCard : Claim7 := { stood := { row := fnExactReadEditRow, standIns := [], harness := (true, "22ded6badc0ac5d8cd635347030977f30938409992d83f4f88df6d4b8ffc8e6e"), looks := true }, kinds := [], alts := [], laidByText := true, laidKinds := [.data, .data, .data, .data, .sentinel, .sentinel, .pinned], laidTests := true, laidLooks := .later }
def FnExactReadEditCardSaid : Prop := Claim7.holds Tryz.pinned (.plain (OpenSpec.ofChange fnExactReadEditSpec)) fnExactReadEditCard

/-- THE TIED CARD OF 'laws.FnEditText'. -/
def fnEditTextCard : Claim7 := { stood := { row := fnEditTextRow, standIns := [], harness := (true, "22ded6badc0ac5d8cd635347030977f30938409992d83f4f88df6d4b8ffc8e6e"), looks := true }, kinds := [], alts := [], laidByText := true, laidKinds := [.data, .data, .data, .data, .sentinel, .sentinel, .pinned], laidTests := true, laidLooks := .later }
def FnEditTextCardSaid : Prop := Claim7.holds Tryz.pinned (.plain (OpenSpec.ofChange fnEditTextSpec)) fnEditTextCard

/-- THE SECOND FORM's CARD OF 'laws.FnExactReadEdit'. -/
def fnExactReadEditUptoCard : Claim7 := { stood := { row := fnExactReadEditUptoRow, standIns := [], harness := (true, "22ded6badc0ac5d8cd635347030977f30938409992d83f4f88df6d4b8ffc8e6e"), looks := true }, kinds := [], alts := [], laidByText := true, laidKinds := [.data, .data, .data, .data, .sentinel, .sentinel, .pinned], laidTests := true, laidLooks := .later }
def FnExactReadEditUptoCardSaid : Prop := Claim7.holds Tryz.pinned (.plain (OpenSpec.upto fnExactReadEditSpec)) fnExactReadEditUptoCard

/-- THE SECOND FORM's CARD OF 'laws.FnEditText'. -/
def fnEditTextUptoCard : Claim7 := { stood := { row := fnEditTextUptoRow, standIns := [], harness := (true, "22ded6badc0ac5d8cd635347030977f30938409992d83f4f88df6d4b8ffc8e6e"), looks := true }, kinds := [], alts := [], laidByText := true, laidKinds := [.data, .data, .data, .data, .sentinel, .sentinel, .pinned], laidTests := true, laidLooks := .later }
def FnEditTextUptoCardSaid : Prop := Claim7.holds Tryz.pinned (.plain (OpenSpec.upto fnEditTextSpec)) fnEditTextUptoCard
end Rows
end Go.Proofs.YtfggbbnnalflhaaGreatDoor
