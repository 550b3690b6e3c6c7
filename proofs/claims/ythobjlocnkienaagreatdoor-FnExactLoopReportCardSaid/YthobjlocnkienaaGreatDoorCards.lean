/-
  DERIVED. GIVEN WITH THE SEED: THE CARDS: each row of YthobjlocnkienaaGreatDoorRows.lean that lists a variable, with what it lists TIED to the program's text (the seventh form; the later family's looks); each row that meets fmt, with fmt's text TOLD by the authors' own Lean function (tested against real Go, not proved from fmt's source: count such statements apart). THE CARD IS WHAT COUNTS. Prove the row's statement (the work); the ties are given (YthobjlocnkienaaGreatDoorTie.lean); close each card by the builder's one call (the guide's Derived/Test/ToyasCard.lean, 'card_holds'). Laid BY PROGRAM, IN A SANDBOX (cutbox-door.mjs). By AI agents, Wed Nov 11 2026. No macro, syntax, notation, axiom, sorry.
-/
import Derived.Test.YthobjlocnkienaaGreatDoorRows
import GoSem.ClaimSeven
namespace Go.Proofs.YthobjlocnkienaaGreatDoor
namespace Rows

/-- THE TIED CARD OF 'laws.FnExactFanIn'. -/
def fnExactFanInCard : Claim7 := { stood := { row := fnExactFanInRow, standIns := [], harness := (true, "bda1184d277ecbc249ffab6e262899e1294763783b8a16ae62b0ea2eb1e304bd"), looks := false }, kinds := [], alts := [], laidByText := true, laidKinds := [.data, .pinned], laidTests := true, laidLooks := .later }
def FnExactFanInCardSaid : Prop := Claim7.holds Tryz.pinned (.plain (OpenSpec.ofChange fnExactFanInSpec)) fnExactFanInCard

/-- THE TIED CARD OF 'laws.FnExactFanOut'. -/
def fnExactFanOutCard : Claim7 := { stood := { row := fnExactFanOutRow, standIns := [], harness := (true, "bda1184d277ecbc249ffab6e262899e1294763783b8a16ae62b0ea2eb1e304bd"), looks := false }, kinds := [], alts := [], laidByText := true, laidKinds := [.data, .pinned], laidTests := true, laidLooks := .later }
def FnExactFanOutCardSaid : Prop := Claim7.holds Tryz.pinned (.plain (OpenSpec.ofChange fnExactFanOutSpec)) fnExactFanOutCard

/-- THE TIED CARD OF 'laws.FnExactRestoreLinks'. -/
def fnExactRestoreLinksCard : Claim7 := { stood := { row := fnExactRestoreLinksRow, standIns := [], harness := (true, "bda1184d277ecbc249ffab6e262899e1294763783b8a16ae62b0ea2eb1e304bd"), looks := false }, kinds := [], alts := [], laidByText := true, laidKinds := [.data, .pinned], laidTests := true, laidLooks := .later }
def FnExactRestoreLinksCardSaid : Prop := Claim7.holds Tryz.pinned (.plain (OpenSpec.ofChange fnExactRestoreLinksSpec)) fnExactRestoreLinksCard

/-- THE TIED CARD OF 'laws.FnExactLoopPath'. -/
def fnExactLoopPathCard : Claim7 := { stood := { row := fnExactLoopPathRow, standIns := [], harness := (true, "bda1184d277ecbc249ffab6e262899e1294763783b8a16ae62b0ea2eb1e304bd"), looks := false }, kinds := [], alts := [], laidByText := true, laidKinds := [.data, .pinned], laidTests := true, laidLooks := .later }
def FnExactLoopPathCardSaid : Prop := Claim7.holds Tryz.pinned (.plain (OpenSpec.ofChange fnExactLoopPathSpec)) fnExactLoopPathCard

/-- THE TIED CARD OF 'laws.FnExactLoopsOf'. -/
def fnExactLoopsOfCard : Claim7 := { stood := { row := fnExactLoopsOfRow, standIns := [], harness := (true, "bda1184d277ecbc249ffab6e262899e1294763783b8a16ae62b0ea2eb1e304bd"), looks := false }, kinds := [], alts := [], laidByText := true, laidKinds := [.data, .pinned], laidTests := true, laidLooks := .later }
def FnExactLoopsOfCardSaid : Prop := Claim7.holds Tryz.pinned (.plain (OpenSpec.ofChange fnExactLoopsOfSpec)) fnExactLoopsOfCard

/-- THE TIED CARD OF 'laws.FnExactLoopReport'. -/
def fnExactLoopReportCard : Claim7 := { stood := { row := fnExactLoopReportRow, standIns := [], harness := (true, "bda1184d277ecbc249ffab6e262899e1294763783b8a16ae62b0ea2eb1e304bd"), looks := false }, kinds := [], alts := [], laidByText := true, laidKinds := [.data, .pinned], laidTests := true, laidLooks := .later }
def FnExactLoopReportCardSaid : Prop := Claim7.holds Tryz.pinned (.plain (OpenSpec.ofChange fnExactLoopReportSpec)) fnExactLoopReportCard

/-- THE TIED CARD OF 'laws.FnExactBreakLoops'. -/
def fnExactBreakLoopsCard : Claim7 := { stood := { row := fnExactBreakLoopsRow, standIns := [], harness := (true, "bda1184d277ecbc249ffab6e262899e1294763783b8a16ae62b0ea2eb1e304bd"), looks := false }, kinds := [], alts := [], laidByText := true, laidKinds := [.data, .pinned], laidTests := true, laidLooks := .later }
def FnExactBreakLoopsCardSaid : Prop := Claim7.holds Tryz.pinned (.plain (OpenSpec.ofChange fnExactBreakLoopsSpec)) fnExactBreakLoopsCard

/-- THE SECOND FORM's CARD OF 'laws.FnExactFanIn'. -/
def fnExactFanInUptoCard : Claim7 := { stood := { row := fnExactFanInUptoRow, standIns := [], harness := (true, "bda1184d277ecbc249ffab6e262899e1294763783b8a16ae62b0ea2eb1e304bd"), looks := false }, kinds := [], alts := [], laidByText := true, laidKinds := [.data, .pinned], laidTests := true, laidLooks := .later }
def FnExactFanInUptoCardSaid : Prop := Claim7.holds Tryz.pinned (.plain (OpenSpec.upto fnExactFanInSpec)) fnExactFanInUptoCard

/-- THE SECOND FORM's CARD OF 'laws.FnExactFanOut'. -/
def fnExactFanOutUptoCard : Claim7 := { stood := { row := fnExactFanOutUptoRow, standIns := [], harness := (true, "bda1184d277ecbc249ffab6e262899e1294763783b8a16ae62b0ea2eb1e304bd"), looks := false }, kinds := [], alts := [], laidByText := true, laidKinds := [.data, .pinned], laidTests := true, laidLooks := .later }
def FnExactFanOutUptoCardSaid : Prop := Claim7.holds Tryz.pinned (.plain (OpenSpec.upto fnExactFanOutSpec)) fnExactFanOutUptoCard

/-- THE SECOND FORM's CARD OF 'laws.FnExactRestoreLinks'. -/
def fnExactRestoreLinksUptoCard : Claim7 := { stood := { row := fnExactRestoreLinksUptoRow, standIns := [], harness := (true, "bda1184d277ecbc249ffab6e262899e1294763783b8a16ae62b0ea2eb1e304bd"), looks := false }, kinds := [], alts := [], laidByText := true, laidKinds := [.data, .pinned], laidTests := true, laidLooks := .later }
def FnExactRestoreLinksUptoCardSaid : Prop := Claim7.holds Tryz.pinned (.plain (OpenSpec.upto fnExactRestoreLinksSpec)) fnExactRestoreLinksUptoCard

/-- THE SECOND FORM's CARD OF 'laws.FnExactLoopPath'. -/
def fnExactLoopPathUptoCard : Claim7 := { stood := { row := fnExactLoopPathUptoRow, standIns := [], harness := (true, "bda1184d277ecbc249ffab6e262899e1294763783b8a16ae62b0ea2eb1e304bd"), looks := false }, kinds := [], alts := [], laidByText := true, laidKinds := [.data, .pinned], laidTests := true, laidLooks := .later }
def FnExactLoopPathUptoCardSaid : Prop := Claim7.holds Tryz.pinned (.plain (OpenSpec.upto fnExactLoopPathSpec)) fnExactLoopPathUptoCard

/-- THE SECOND FORM's CARD OF 'laws.FnExactLoopsOf'. -/
def fnExactLoopsOfUptoCard : Claim7 := { stood := { row := fnExactLoopsOfUptoRow, standIns := [], harness := (true, "bda1184d277ecbc249ffab6e262899e1294763783b8a16ae62b0ea2eb1e304bd"), looks := false }, kinds := [], alts := [], laidByText := true, laidKinds := [.data, .pinned], laidTests := true, laidLooks := .later }
def FnExactLoopsOfUptoCardSaid : Prop := Claim7.holds Tryz.pinned (.plain (OpenSpec.upto fnExactLoopsOfSpec)) fnExactLoopsOfUptoCard

/-- THE SECOND FORM's CARD OF 'laws.FnExactLoopReport'. -/
def fnExactLoopReportUptoCard : Claim7 := { stood := { row := fnExactLoopReportUptoRow, standIns := [], harness := (true, "bda1184d277ecbc249ffab6e262899e1294763783b8a16ae62b0ea2eb1e304bd"), looks := false }, kinds := [], alts := [], laidByText := true, laidKinds := [.data, .pinned], laidTests := true, laidLooks := .later }
def FnExactLoopReportUptoCardSaid : Prop := Claim7.holds Tryz.pinned (.plain (OpenSpec.upto fnExactLoopReportSpec)) fnExactLoopReportUptoCard

/-- THE SECOND FORM's CARD OF 'laws.FnExactBreakLoops'. -/
def fnExactBreakLoopsUptoCard : Claim7 := { stood := { row := fnExactBreakLoopsUptoRow, standIns := [], harness := (true, "bda1184d277ecbc249ffab6e262899e1294763783b8a16ae62b0ea2eb1e304bd"), looks := false }, kinds := [], alts := [], laidByText := true, laidKinds := [.data, .pinned], laidTests := true, laidLooks := .later }
def FnExactBreakLoopsUptoCardSaid : Prop := Claim7.holds Tryz.pinned (.plain (OpenSpec.upto fnExactBreakLoopsSpec)) fnExactBreakLoopsUptoCard
end Rows
end Go.Proofs.YthobjlocnkienaaGreatDoor
