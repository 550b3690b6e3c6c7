/-
  DERIVED. GIVEN WITH THE SEED: THE CARDS: each row of YtkmmjamclcdjkaaGreatDoorRows.lean that lists a variable, with what it lists TIED to the program's text (the seventh form; the later family's looks); each row that meets fmt, with fmt's text TOLD by the authors' own Lean function (tested against real Go, not proved from fmt's source: count such statements apart). THE CARD IS WHAT COUNTS. Prove the row's statement (the work); the ties are given (YtkmmjamclcdjkaaGreatDoorTie.lean); close each card by the builder's one call (the guide's Derived/Test/ToyasCard.lean, 'card_holds'). Laid BY PROGRAM, IN A SANDBOX (cutbox-door.mjs). By AI agents, Wed Nov 11 2026. No macro, syntax, notation, axiom, sorry.
-/
import Derived.Test.YtkmmjamclcdjkaaGreatDoorRows
import GoSem.ClaimSeven
namespace Go.Proofs.YtkmmjamclcdjkaaGreatDoor
namespace Rows

/-- THE TIED CARD OF 'laws.FnExactEditCode'. -/
def fnExactEditCodeCard : Claim7 := { stood := { row := fnExactEditCodeRow, standIns := [], harness := (true, "eb2be79d507d7437e3cfe4b9ababe944ec4d6143cdf0e41a79e03b2ffbe39f38"), looks := false }, kinds := [], alts := [], laidByText := true, laidKinds := [.data, .pinned], laidTests := true, laidLooks := .later }
def FnExactEditCodeCardSaid : Prop := Claim7.holds Tryz.pinned (.plain (OpenSpec.ofChange fnExactEditCodeSpec)) fnExactEditCodeCard

/-- THE TIED CARD OF 'laws.FnExactSinkDelays'. -/
def fnExactSinkDelaysCard : Claim7 := { stood := { row := fnExactSinkDelaysRow, standIns := [], harness := (true, "eb2be79d507d7437e3cfe4b9ababe944ec4d6143cdf0e41a79e03b2ffbe39f38"), looks := false }, kinds := [], alts := [], laidByText := true, laidKinds := [.data, .pinned], laidTests := true, laidLooks := .later }
def FnExactSinkDelaysCardSaid : Prop := Claim7.holds Tryz.pinned (.plain (OpenSpec.ofChange fnExactSinkDelaysSpec)) fnExactSinkDelaysCard

/-- THE TIED CARD OF 'laws.FnExactBlockText'. -/
def fnExactBlockTextCard : Claim7 := { stood := { row := fnExactBlockTextRow, standIns := [], harness := (true, "eb2be79d507d7437e3cfe4b9ababe944ec4d6143cdf0e41a79e03b2ffbe39f38"), looks := false }, kinds := [], alts := [], laidByText := true, laidKinds := [.data, .data, .data, .data, .pinned], laidTests := true, laidLooks := .later }
def FnExactBlockTextCardSaid : Prop := Claim7.holds Tryz.pinned (.plain (OpenSpec.ofChange fnExactBlockTextSpec)) fnExactBlockTextCard

/-- THE SECOND FORM's CARD OF 'laws.FnExactEditCode'. -/
def fnExactEditCodeUptoCard : Claim7 := { stood := { row := fnExactEditCodeUptoRow, standIns := [], harness := (true, "eb2be79d507d7437e3cfe4b9ababe944ec4d6143cdf0e41a79e03b2ffbe39f38"), looks := false }, kinds := [], alts := [], laidByText := true, laidKinds := [.data, .pinned], laidTests := true, laidLooks := .later }
def FnExactEditCodeUptoCardSaid : Prop := Claim7.holds Tryz.pinned (.plain (OpenSpec.upto fnExactEditCodeSpec)) fnExactEditCodeUptoCard

/-- THE SECOND FORM's CARD OF 'laws.FnExactSinkDelays'. -/
def fnExactSinkDelaysUptoCard : Claim7 := { stood := { row := fnExactSinkDelaysUptoRow, standIns := [], harness := (true, "eb2be79d507d7437e3cfe4b9ababe944ec4d6143cdf0e41a79e03b2ffbe39f38"), looks := false }, kinds := [], alts := [], laidByText := true, laidKinds := [.data, .pinned], laidTests := true, laidLooks := .later }
def FnExactSinkDelaysUptoCardSaid : Prop := Claim7.holds Tryz.pinned (.plain (OpenSpec.upto fnExactSinkDelaysSpec)) fnExactSinkDelaysUptoCard

/-- THE SECOND FORM's CARD OF 'laws.FnExactBlockText'. -/
def fnExactBlockTextUptoCard : Claim7 := { stood := { row := fnExactBlockTextUptoRow, standIns := [], harness := (true, "eb2be79d507d7437e3cfe4b9ababe944ec4d6143cdf0e41a79e03b2ffbe39f38"), looks := false }, kinds := [], alts := [], laidByText := true, laidKinds := [.data, .data, .data, .data, .pinned], laidTests := true, laidLooks := .later }
def FnExactBlockTextUptoCardSaid : Prop := Claim7.holds Tryz.pinned (.plain (OpenSpec.upto fnExactBlockTextSpec)) fnExactBlockTextUptoCard
end Rows
end Go.Proofs.YtkmmjamclcdjkaaGreatDoor
