/-
  DERIVED. GIVEN WITH THE SEED: THE CARDS: each row of YtgmpfbpemmohnaaGreatDoorRows.lean that lists a variable, with what it lists TIED to the program's text (the seventh form; the later family's looks); each row that meets fmt, with fmt's text TOLD by the authors' own Lean function (tested against real Go, not proved from fmt's source: count such statements apart). THE CARD IS WHAT COUNTS. Prove the row's statement (the work); the ties are given (YtgmpfbpemmohnaaGreatDoorTie.lean); close each card by the builder's one call (the guide's Derived/Test/ToyasCard.lean, 'card_holds'). Laid BY PROGRAM, IN A SANDBOX (cutbox-door.mjs). By AI agents, Wed Nov 11 2026. No macro, syntax, notation, axiom, sorry.
-/
import Derived.Test.YtgmpfbpemmohnaaGreatDoorRows
import GoSem.ClaimSeven
namespace Go.Proofs.YtgmpfbpemmohnaaGreatDoor
namespace Rows

/-- THE TIED CARD OF 'laws.FnExactSinkDelays'. -/
def fnExactSinkDelaysCard : Claim7 := { stood := { row := fnExactSinkDelaysRow, standIns := [], harness := (true, "356f5e2a98c0878cd7d3b253f37051822ba4fda038554d30b9db953cbdbdf1e1"), looks := false }, kinds := [], alts := [], laidByText := true, laidKinds := [.data, .pinned], laidTests := true, laidLooks := .later }
def FnExactSinkDelaysCardSaid : Prop := Claim7.holds Tryz.pinned (.plain (OpenSpec.ofChange fnExactSinkDelaysSpec)) fnExactSinkDelaysCard

/-- THE TIED CARD OF 'laws.FnExactLinksOf'. -/
def fnExactLinksOfCard : Claim7 := { stood := { row := fnExactLinksOfRow, standIns := [], harness := (true, "356f5e2a98c0878cd7d3b253f37051822ba4fda038554d30b9db953cbdbdf1e1"), looks := false }, kinds := [], alts := [], laidByText := true, laidKinds := [.data, .pinned], laidTests := true, laidLooks := .later }
def FnExactLinksOfCardSaid : Prop := Claim7.holds Tryz.pinned (.plain (OpenSpec.ofChange fnExactLinksOfSpec)) fnExactLinksOfCard

/-- THE TIED CARD OF 'laws.FnExactLinksFrom'. -/
def fnExactLinksFromCard : Claim7 := { stood := { row := fnExactLinksFromRow, standIns := [], harness := (true, "356f5e2a98c0878cd7d3b253f37051822ba4fda038554d30b9db953cbdbdf1e1"), looks := false }, kinds := [], alts := [], laidByText := true, laidKinds := [.data, .pinned], laidTests := true, laidLooks := .later }
def FnExactLinksFromCardSaid : Prop := Claim7.holds Tryz.pinned (.plain (OpenSpec.ofChange fnExactLinksFromSpec)) fnExactLinksFromCard

/-- THE TIED CARD OF 'laws.FnExactLinksTo'. -/
def fnExactLinksToCard : Claim7 := { stood := { row := fnExactLinksToRow, standIns := [], harness := (true, "356f5e2a98c0878cd7d3b253f37051822ba4fda038554d30b9db953cbdbdf1e1"), looks := false }, kinds := [], alts := [], laidByText := true, laidKinds := [.data, .pinned], laidTests := true, laidLooks := .later }
def FnExactLinksToCardSaid : Prop := Claim7.holds Tryz.pinned (.plain (OpenSpec.ofChange fnExactLinksToSpec)) fnExactLinksToCard

/-- THE TIED CARD OF 'laws.FnExactTopologicalOrder'. -/
def fnExactTopologicalOrderCard : Claim7 := { stood := { row := fnExactTopologicalOrderRow, standIns := [], harness := (true, "356f5e2a98c0878cd7d3b253f37051822ba4fda038554d30b9db953cbdbdf1e1"), looks := false }, kinds := [], alts := [], laidByText := true, laidKinds := [.data, .pinned], laidTests := true, laidLooks := .later }
def FnExactTopologicalOrderCardSaid : Prop := Claim7.holds Tryz.pinned (.plain (OpenSpec.ofChange fnExactTopologicalOrderSpec)) fnExactTopologicalOrderCard

/-- THE SECOND FORM's CARD OF 'laws.FnExactSinkDelays'. -/
def fnExactSinkDelaysUptoCard : Claim7 := { stood := { row := fnExactSinkDelaysUptoRow, standIns := [], harness := (true, "356f5e2a98c0878cd7d3b253f37051822ba4fda038554d30b9db953cbdbdf1e1"), looks := false }, kinds := [], alts := [], laidByText := true, laidKinds := [.data, .pinned], laidTests := true, laidLooks := .later }
def FnExactSinkDelaysUptoCardSaid : Prop := Claim7.holds Tryz.pinned (.plain (OpenSpec.upto fnExactSinkDelaysSpec)) fnExactSinkDelaysUptoCard

/-- THE SECOND FORM's CARD OF 'laws.FnExactLinksOf'. -/
def fnExactLinksOfUptoCard : Claim7 := { stood := { row := fnExactLinksOfUptoRow, standIns := [], harness := (true, "356f5e2a98c0878cd7d3b253f37051822ba4fda038554d30b9db953cbdbdf1e1"), looks := false }, kinds := [], alts := [], laidByText := true, laidKinds := [.data, .pinned], laidTests := true, laidLooks := .later }
def FnExactLinksOfUptoCardSaid : Prop := Claim7.holds Tryz.pinned (.plain (OpenSpec.upto fnExactLinksOfSpec)) fnExactLinksOfUptoCard

/-- THE SECOND FORM's CARD OF 'laws.FnExactLinksFrom'. -/
def fnExactLinksFromUptoCard : Claim7 := { stood := { row := fnExactLinksFromUptoRow, standIns := [], harness := (true, "356f5e2a98c0878cd7d3b253f37051822ba4fda038554d30b9db953cbdbdf1e1"), looks := false }, kinds := [], alts := [], laidByText := true, laidKinds := [.data, .pinned], laidTests := true, laidLooks := .later }
def FnExactLinksFromUptoCardSaid : Prop := Claim7.holds Tryz.pinned (.plain (OpenSpec.upto fnExactLinksFromSpec)) fnExactLinksFromUptoCard

/-- THE SECOND FORM's CARD OF 'laws.FnExactLinksTo'. -/
def fnExactLinksToUptoCard : Claim7 := { stood := { row := fnExactLinksToUptoRow, standIns := [], harness := (true, "356f5e2a98c0878cd7d3b253f37051822ba4fda038554d30b9db953cbdbdf1e1"), looks := false }, kinds := [], alts := [], laidByText := true, laidKinds := [.data, .pinned], laidTests := true, laidLooks := .later }
def FnExactLinksToUptoCardSaid : Prop := Claim7.holds Tryz.pinned (.plain (OpenSpec.upto fnExactLinksToSpec)) fnExactLinksToUptoCard

/-- THE SECOND FORM's CARD OF 'laws.FnExactTopologicalOrder'. -/
def fnExactTopologicalOrderUptoCard : Claim7 := { stood := { row := fnExactTopologicalOrderUptoRow, standIns := [], harness := (true, "356f5e2a98c0878cd7d3b253f37051822ba4fda038554d30b9db953cbdbdf1e1"), looks := false }, kinds := [], alts := [], laidByText := true, laidKinds := [.data, .pinned], laidTests := true, laidLooks := .later }
def FnExactTopologicalOrderUptoCardSaid : Prop := Claim7.holds Tryz.pinned (.plain (OpenSpec.upto fnExactTopologicalOrderSpec)) fnExactTopologicalOrderUptoCard
end Rows
end Go.Proofs.YtgmpfbpemmohnaaGreatDoor
