/-
  DERIVED. GIVEN WITH THE SEED: THE CARDS: each row of YtlfeppknkfknhaaGreatDoorRows.lean that lists a variable, with what it lists TIED to the program's text (the seventh form; the later family's looks); each row that meets fmt, with fmt's text TOLD by the authors' own Lean function (tested against real Go, not proved from fmt's source: count such statements apart). THE CARD IS WHAT COUNTS. Prove the row's statement (the work); the ties are given (YtlfeppknkfknhaaGreatDoorTie.lean); close each card by the builder's one call (the guide's Derived/Test/ToyasCard.lean, 'card_holds'). Laid BY PROGRAM, IN A SANDBOX (cutbox-door.mjs). By AI agents, Wed Nov 11 2026. No macro, syntax, notation, axiom, sorry.
-/
import Derived.Test.YtlfeppknkfknhaaGreatDoorRows
import GoSem.ClaimSeven
namespace Go.Proofs.YtlfeppknkfknhaaGreatDoor
namespace Rows

/-- THE TIED CARD OF 'laws.FnExactLoopsOf'. -/
def fnExactLoopsOfCard : Claim7 := { stood := { row := fnExactLoopsOfRow, standIns := [], harness := (true, "430b9ce0dfee2ba5a9f1fc8aba2f350a045dac867d58f2ede23b302c37d32c11"), looks := false }, kinds := [], alts := [], laidByText := true, laidKinds := [.data, .pinned], laidTests := true, laidLooks := .later }
def FnExactLoopsOfCardSaid : Prop := Claim7.holds Tryz.pinned (.plain (OpenSpec.ofChange fnExactLoopsOfSpec)) fnExactLoopsOfCard

/-- THE SECOND FORM's CARD OF 'laws.FnExactLoopsOf'. -/
def fnExactLoopsOfUptoCard : Claim7 := { stood := { row := fnExactLoopsOfUptoRow, standIns := [], harness := (true, "430b9ce0dfee2ba5a9f1fc8aba2f350a045dac867d58f2ede23b302c37d32c11"), looks := false }, kinds := [], alts := [], laidByText := true, laidKinds := [.data, .pinned], laidTests := true, laidLooks := .later }
def FnExactLoopsOfUptoCardSaid : Prop := Claim7.holds Tryz.pinned (.plain (OpenSpec.upto fnExactLoopsOfSpec)) fnExactLoopsOfUptoCard
end Rows
end Go.Proofs.YtlfeppknkfknhaaGreatDoor
