/-
  DERIVED. GIVEN WITH THE SEED: THE CARDS: each row of YtbhfbliodeagmaaGreatDoorRows.lean that lists a variable, with what it lists TIED to the program's text (the seventh form; the later family's looks); each row that meets fmt, with fmt's text TOLD by the authors' own Lean function (tested against real Go, not proved from fmt's source: count such statements apart). THE CARD IS WHAT COUNTS. Prove the row's statement (the work); the ties are given (YtbhfbliodeagmaaGreatDoorTie.lean); close each card by the builder's one call (the guide's Derived/Test/ToyasCard.lean, 'card_holds'). Laid BY PROGRAM, IN A SANDBOX (cutbox-door.mjs). By AI agents, Wed Nov 11 2026. No macro, syntax, notation, axiom, sorry.
-/
import Derived.Test.YtbhfbliodeagmaaGreatDoorRows
import GoSem.ClaimSeven
namespace Go.Proofs.YtbhfbliodeagmaaGreatDoor
namespace Rows

/-- THE TIED CARD OF 'gameplayerlaw39.ObserveTexts'. -/
def observeTextsCard : Claim7 := { stood := { row := observeTextsRow, standIns := [], harness := (true, "3b2c1dcb19996900f6441dc3723cfe8daae3e3ea70431d9d23824ca092f01da7"), looks := true }, kinds := [], alts := [], laidByText := true, laidKinds := [.data, .data, .data, .widerDeep, .widerDeep], laidTests := true, laidLooks := .later }
def ObserveTextsCardSaid : Prop := Claim7.holds Tryz.pinned (.plain (OpenSpec.ofChange observeTextsSpec)) observeTextsCard

/-- THE SECOND FORM's CARD OF 'gameplayerlaw39.ObserveTexts'. -/
def observeTextsUptoCard : Claim7 := { stood := { row := observeTextsUptoRow, standIns := [], harness := (true, "3b2c1dcb19996900f6441dc3723cfe8daae3e3ea70431d9d23824ca092f01da7"), looks := true }, kinds := [], alts := [], laidByText := true, laidKinds := [.data, .data, .data, .widerDeep, .widerDeep], laidTests := true, laidLooks := .later }
def ObserveTextsUptoCardSaid : Prop := Claim7.holds Tryz.pinned (.plain (OpenSpec.upto observeTextsSpec)) observeTextsUptoCard
end Rows
end Go.Proofs.YtbhfbliodeagmaaGreatDoor
