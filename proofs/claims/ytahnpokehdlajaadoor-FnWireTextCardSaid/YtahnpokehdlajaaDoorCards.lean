/-
  DERIVED. GIVEN WITH THE SEED: THE CARDS: each row of YtahnpokehdlajaaDoorRows.lean that lists a variable, with what it lists TIED to the program's text (the seventh form; the later family's looks); each row that meets fmt, with fmt's text TOLD by the authors' own Lean function (tested against real Go, not proved from fmt's source: count such statements apart). THE CARD IS WHAT COUNTS. Prove the row's statement (the work); the ties are given (YtahnpokehdlajaaDoorTie.lean); close each card by the builder's one call (the guide's Derived/Test/ToyasCard.lean, 'card_holds'). Laid BY PROGRAM, IN A SANDBOX (cutbox-door.mjs). By AI agents, Wed Nov 11 2026. No macro, syntax, notation, axiom, sorry.
-/
import Derived.Test.YtahnpokehdlajaaDoorRows
import GoSem.ClaimSeven
namespace Go.Proofs.YtahnpokehdlajaaDoor
namespace Rows

/-- THE TIED CARD OF 'laws.FnExactPlainCorner'. -/
def fnExactPlainCornerCard : Claim7 := { stood := { row := fnExactPlainCornerRow, standIns := [], harness := (true, "93f5524bb639ff7a082ebcc8c1488b05e0babc6448cd4260b59df023ff085c05"), looks := true }, kinds := [], alts := [], laidByText := true, laidKinds := [.data, .pinned], laidTests := true, laidLooks := .later }
def FnExactPlainCornerCardSaid : Prop := Claim7.holds Tryd.pinned (.plain (OpenSpec.ofChange fnExactPlainCornerSpec)) fnExactPlainCornerCard

/-- THE TIED CARD OF 'laws.FnExactIsCorner'. -/
def fnExactIsCornerCard : Claim7 := { stood := { row := fnExactIsCornerRow, standIns := [], harness := (true, "93f5524bb639ff7a082ebcc8c1488b05e0babc6448cd4260b59df023ff085c05"), looks := true }, kinds := [], alts := [], laidByText := true, laidKinds := [.data, .pinned], laidTests := true, laidLooks := .later }
def FnExactIsCornerCardSaid : Prop := Claim7.holds Tryd.pinned (.plain (OpenSpec.ofChange fnExactIsCornerSpec)) fnExactIsCornerCard

/-- THE TIED CARD OF 'laws.FnExactTableText'. -/
def fnExactTableTextCard : Claim7 := { stood := { row := fnExactTableTextRow, standIns := [], harness := (true, "93f5524bb639ff7a082ebcc8c1488b05e0babc6448cd4260b59df023ff085c05"), looks := true }, kinds := [], alts := [], laidByText := true, laidKinds := [.data, .data, .data], laidTests := true, laidLooks := .later }
def FnExactTableTextCardSaid : Prop := Claim7.holds Tryd.pinned (.plain (OpenSpec.ofChange fnExactTableTextSpec)) fnExactTableTextCard

/-- THE TIED CARD OF 'laws.FnExactWireText'. -/
def fnExactWireTextCard : Claim7 := { stood := { row := fnExactWireTextRow, standIns := [], harness := (true, "93f5524bb639ff7a082ebcc8c1488b05e0babc6448cd4260b59df023ff085c05"), looks := true }, kinds := [], alts := [], laidByText := true, laidKinds := [.data, .data, .data], laidTests := true, laidLooks := .later }
def FnExactWireTextCardSaid : Prop := Claim7.holds Tryd.pinned (.plain (OpenSpec.ofChange fnExactWireTextSpec)) fnExactWireTextCard

/-- THE TIED CARD OF 'laws.FnWireText'. -/
def fnWireTextCard : Claim7 := { stood := { row := fnWireTextRow, standIns := [], harness := (true, "93f5524bb639ff7a082ebcc8c1488b05e0babc6448cd4260b59df023ff085c05"), looks := true }, kinds := [], alts := [], laidByText := true, laidKinds := [.data, .data, .data, .data, .sentinel, .sentinel, .pinned], laidTests := true, laidLooks := .later }
def FnWireTextCardSaid : Prop := Claim7.holds Tryd.pinned (.plain (OpenSpec.ofChange fnWireTextSpec)) fnWireTextCard

/-- THE TIED CARD OF 'laws.FnTableText'. -/
def fnTableTextCard : Claim7 := { stood := { row := fnTableTextRow, standIns := [], harness := (true, "93f5524bb639ff7a082ebcc8c1488b05e0babc6448cd4260b59df023ff085c05"), looks := true }, kinds := [], alts := [], laidByText := true, laidKinds := [.data, .data, .data, .data, .sentinel, .sentinel, .pinned], laidTests := true, laidLooks := .later }
def FnTableTextCardSaid : Prop := Claim7.holds Tryd.pinned (.plain (OpenSpec.ofChange fnTableTextSpec)) fnTableTextCard

/-- THE SECOND FORM's CARD OF 'laws.FnExactPlainCorner'. -/
def fnExactPlainCornerUptoCard : Claim7 := { stood := { row := fnExactPlainCornerUptoRow, standIns := [], harness := (true, "93f5524bb639ff7a082ebcc8c1488b05e0babc6448cd4260b59df023ff085c05"), looks := true }, kinds := [], alts := [], laidByText := true, laidKinds := [.data, .pinned], laidTests := true, laidLooks := .later }
def FnExactPlainCornerUptoCardSaid : Prop := Claim7.holds Tryd.pinned (.plain (OpenSpec.upto fnExactPlainCornerSpec)) fnExactPlainCornerUptoCard

/-- THE SECOND FORM's CARD OF 'laws.FnExactIsCorner'. -/
def fnExactIsCornerUptoCard : Claim7 := { stood := { row := fnExactIsCornerUptoRow, standIns := [], harness := (true, "93f5524bb639ff7a082ebcc8c1488b05e0babc6448cd4260b59df023ff085c05"), looks := true }, kinds := [], alts := [], laidByText := true, laidKinds := [.data, .pinned], laidTests := true, laidLooks := .later }
def FnExactIsCornerUptoCardSaid : Prop := Claim7.holds Tryd.pinned (.plain (OpenSpec.upto fnExactIsCornerSpec)) fnExactIsCornerUptoCard

/-- THE SECOND FORM's CARD OF 'laws.FnExactTableText'. -/
def fnExactTableTextUptoCard : Claim7 := { stood := { row := fnExactTableTextUptoRow, standIns := [], harness := (true, "93f5524bb639ff7a082ebcc8c1488b05e0babc6448cd4260b59df023ff085c05"), looks := true }, kinds := [], alts := [], laidByText := true, laidKinds := [.data, .data, .data], laidTests := true, laidLooks := .later }
def FnExactTableTextUptoCardSaid : Prop := Claim7.holds Tryd.pinned (.plain (OpenSpec.upto fnExactTableTextSpec)) fnExactTableTextUptoCard

/-- THE SECOND FORM's CARD OF 'laws.FnExactWireText'. -/
def fnExactWireTextUptoCard : Claim7 := { stood := { row := fnExactWireTextUptoRow, standIns := [], harness := (true, "93f5524bb639ff7a082ebcc8c1488b05e0babc6448cd4260b59df023ff085c05"), looks := true }, kinds := [], alts := [], laidByText := true, laidKinds := [.data, .data, .data], laidTests := true, laidLooks := .later }
def FnExactWireTextUptoCardSaid : Prop := Claim7.holds Tryd.pinned (.plain (OpenSpec.upto fnExactWireTextSpec)) fnExactWireTextUptoCard

/-- THE SECOND FORM's CARD OF 'laws.FnWireText'. -/
def fnWireTextUptoCard : Claim7 := { stood := { row := fnWireTextUptoRow, standIns := [], harness := (true, "93f5524bb639ff7a082ebcc8c1488b05e0babc6448cd4260b59df023ff085c05"), looks := true }, kinds := [], alts := [], laidByText := true, laidKinds := [.data, .data, .data, .data, .sentinel, .sentinel, .pinned], laidTests := true, laidLooks := .later }
def FnWireTextUptoCardSaid : Prop := Claim7.holds Tryd.pinned (.plain (OpenSpec.upto fnWireTextSpec)) fnWireTextUptoCard

/-- THE SECOND FORM's CARD OF 'laws.FnTableText'. -/
def fnTableTextUptoCard : Claim7 := { stood := { row := fnTableTextUptoRow, standIns := [], harness := (true, "93f5524bb639ff7a082ebcc8c1488b05e0babc6448cd4260b59df023ff085c05"), looks := true }, kinds := [], alts := [], laidByText := true, laidKinds := [.data, .data, .data, .data, .sentinel, .sentinel, .pinned], laidTests := true, laidLooks := .later }
def FnTableTextUptoCardSaid : Prop := Claim7.holds Tryd.pinned (.plain (OpenSpec.upto fnTableTextSpec)) fnTableTextUptoCard
end Rows
end Go.Proofs.YtahnpokehdlajaaDoor
