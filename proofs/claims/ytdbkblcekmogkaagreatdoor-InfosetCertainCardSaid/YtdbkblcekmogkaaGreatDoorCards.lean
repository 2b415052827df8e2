/-
  DERIVED. GIVEN WITH THE SEED: THE CARDS: each row of YtdbkblcekmogkaaGreatDoorRows.lean that lists a variable, with what it lists TIED to the program's text (the seventh form; the later family's looks); each row that meets fmt, with fmt's text TOLD by the authors' own Lean function (tested against real Go, not proved from fmt's source: count such statements apart). THE CARD IS WHAT COUNTS. Prove the row's statement (the work); the ties are given (YtdbkblcekmogkaaGreatDoorTie.lean); close each card by the builder's one call (the guide's Derived/Test/ToyasCard.lean, 'card_holds'). Laid BY PROGRAM, IN A SANDBOX (cutbox-door.mjs). By AI agents, Wed Nov 11 2026. No macro, syntax, notation, axiom, sorry.
-/
import Derived.Test.YtdbkblcekmogkaaGreatDoorRows
import GoSem.ClaimSeven
namespace Go.Proofs.YtdbkblcekmogkaaGreatDoor
namespace Rows

/-- THE TIED CARD OF 'gameplayerlaw40.InfosetCertain'. -/
def infosetCertainCard : Claim7 := { stood := { row := infosetCertainRow, standIns := [], harness := (true, "de211d1ecd7717276e6c9f905accfdc9daf9808bdf477e87dc475c2966fdc2fb"), looks := false }, kinds := [], alts := [], laidByText := true, laidKinds := [.data, .data, .data, .widerDeep], laidTests := true, laidLooks := .later }
def InfosetCertainCardSaid : Prop := Claim7.holds Tryz.pinned (.plain (OpenSpec.ofChange infosetCertainSpec)) infosetCertainCard

/-- THE SECOND FORM's CARD OF 'gameplayerlaw40.InfosetCertain'. -/
def infosetCertainUptoCard : Claim7 := { stood := { row := infosetCertainUptoRow, standIns := [], harness := (true, "de211d1ecd7717276e6c9f905accfdc9daf9808bdf477e87dc475c2966fdc2fb"), looks := false }, kinds := [], alts := [], laidByText := true, laidKinds := [.data, .data, .data, .widerDeep], laidTests := true, laidLooks := .later }
def InfosetCertainUptoCardSaid : Prop := Claim7.holds Tryz.pinned (.plain (OpenSpec.upto infosetCertainSpec)) infosetCertainUptoCard
end Rows
end Go.Proofs.YtdbkblcekmogkaaGreatDoor
