/-
  DERIVED. GIVEN WITH THE SEED: THE CARDS: each row of YtepmohahglddnaaGreatDoorRows.lean that lists a variable, with what it lists TIED to the program's text (the seventh form; the later family's looks); each row that meets fmt, with fmt's text TOLD by the authors' own Lean function (tested against real Go, not proved from fmt's source: count such statements apart). THE CARD IS WHAT COUNTS. Prove the row's statement (the work); the ties are given (YtepmohahglddnaaGreatDoorTie.lean); close each card by the builder's one call (the guide's Derived/Test/ToyasCard.lean, 'card_holds'). Laid BY PROGRAM, IN A SANDBOX (cutbox-door.mjs). By AI agents, Wed Nov 11 2026. No macro, syntax, notation, axiom, sorry.
-/
import Derived.Test.YtepmohahglddnaaGreatDoorRows
import GoSem.ClaimSeven
namespace Go.Proofs.YtepmohahglddnaaGreatDoor
namespace Rows

/-- THE TIED CARD OF 'gameplayerlaw41.BeliefBetween'. -/
def beliefBetweenCard : Claim7 := { stood := { row := beliefBetweenRow, standIns := [], harness := (true, "1d1f2f5f68cb12d4a06938e5da0dfe654046b0eb83a0fda8959e67ff2c6c19ba"), looks := false }, kinds := [], alts := [], laidByText := true, laidKinds := [.data, .data, .data, .widerDeep, .data, .data], laidTests := true, laidLooks := .later }
def BeliefBetweenCardSaid : Prop := Claim7.holds Tryz.pinned (.plain (OpenSpec.ofChange beliefBetweenSpec)) beliefBetweenCard

/-- THE SECOND FORM's CARD OF 'gameplayerlaw41.BeliefBetween'. -/
def beliefBetweenUptoCard : Claim7 := { stood := { row := beliefBetweenUptoRow, standIns := [], harness := (true, "1d1f2f5f68cb12d4a06938e5da0dfe654046b0eb83a0fda8959e67ff2c6c19ba"), looks := false }, kinds := [], alts := [], laidByText := true, laidKinds := [.data, .data, .data, .widerDeep, .data, .data], laidTests := true, laidLooks := .later }
def BeliefBetweenUptoCardSaid : Prop := Claim7.holds Tryz.pinned (.plain (OpenSpec.upto beliefBetweenSpec)) beliefBetweenUptoCard
end Rows
end Go.Proofs.YtepmohahglddnaaGreatDoor
