/-
  DERIVED. GIVEN WITH THE SEED: THE CARDS: each row of YtoikephldpcpgaaGreatDoorRows.lean that lists a variable, with what it lists TIED to the program's text (the seventh form; the later family's looks); each row that meets fmt, with fmt's text TOLD by the authors' own Lean function (tested against real Go, not proved from fmt's source: count such statements apart). THE CARD IS WHAT COUNTS. Prove the row's statement (the work); the ties are given (YtoikephldpcpgaaGreatDoorTie.lean); close each card by the builder's one call (the guide's Derived/Test/ToyasCard.lean, 'card_holds'). Laid BY PROGRAM, IN A SANDBOX (cutbox-door.mjs). By AI agents, Wed Nov 11 2026. No macro, syntax, notation, axiom, sorry.
-/
import Derived.Test.YtoikephldpcpgaaGreatDoorRows
import GoSem.ClaimSeven
namespace Go.Proofs.YtoikephldpcpgaaGreatDoor
namespace Rows

/-- THE TIED CARD OF 'gameplayerlaw41.BeliefTells'. -/
def beliefTellsCard : Claim7 := { stood := { row := beliefTellsRow, standIns := [], harness := (true, "b00f7f888a1d43284fe2cbe0ff82f7fc34f40fd10a2780700665c3e657eb1274"), looks := false }, kinds := [], alts := [], laidByText := true, laidKinds := [.data, .data, .data, .widerDeep, .data, .data], laidTests := true, laidLooks := .later }
def BeliefTellsCardSaid : Prop := Claim7.holds Tryz.pinned (.plain (OpenSpec.ofChange beliefTellsSpec)) beliefTellsCard

/-- THE SECOND FORM's CARD OF 'gameplayerlaw41.BeliefTells'. -/
def beliefTellsUptoCard : Claim7 := { stood := { row := beliefTellsUptoRow, standIns := [], harness := (true, "b00f7f888a1d43284fe2cbe0ff82f7fc34f40fd10a2780700665c3e657eb1274"), looks := false }, kinds := [], alts := [], laidByText := true, laidKinds := [.data, .data, .data, .widerDeep, .data, .data], laidTests := true, laidLooks := .later }
def BeliefTellsUptoCardSaid : Prop := Claim7.holds Tryz.pinned (.plain (OpenSpec.upto beliefTellsSpec)) beliefTellsUptoCard
end Rows
end Go.Proofs.YtoikephldpcpgaaGreatDoor
