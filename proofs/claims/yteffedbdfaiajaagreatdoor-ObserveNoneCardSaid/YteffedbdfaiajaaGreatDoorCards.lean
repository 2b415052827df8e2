/-
  DERIVED. GIVEN WITH THE SEED: THE CARDS: each row of YteffedbdfaiajaaGreatDoorRows.lean that lists a variable, with what it lists TIED to the program's text (the seventh form; the later family's looks); each row that meets fmt, with fmt's text TOLD by the authors' own Lean function (tested against real Go, not proved from fmt's source: count such statements apart). THE CARD IS WHAT COUNTS. Prove the row's statement (the work); the ties are given (YteffedbdfaiajaaGreatDoorTie.lean); close each card by the builder's one call (the guide's Derived/Test/ToyasCard.lean, 'card_holds'). Laid BY PROGRAM, IN A SANDBOX (cutbox-door.mjs). By AI agents, Wed Nov 11 2026. No macro, syntax, notation, axiom, sorry.
-/
import Derived.Test.YteffedbdfaiajaaGreatDoorRows
import GoSem.ClaimSeven
namespace Go.Proofs.YteffedbdfaiajaaGreatDoor
namespace Rows

/-- THE TIED CARD OF 'gameplayerlaw39.ObserveNone'. -/
def observeNoneCard : Claim7 := { stood := { row := observeNoneRow, standIns := [], harness := (true, "4bd4f54485e6e5637ca973640874b522d0cacae42cfc31cc2c01e6888db480f1"), looks := true }, kinds := [], alts := [], laidByText := true, laidKinds := [.data, .data, .data, .widerDeep, .widerDeep], laidTests := true, laidLooks := .later }
def ObserveNoneCardSaid : Prop := Claim7.holds Tryz.pinned (.plain (OpenSpec.ofChange observeNoneSpec)) observeNoneCard

/-- THE SECOND FORM's CARD OF 'gameplayerlaw39.ObserveNone'. -/
def observeNoneUptoCard : Claim7 := { stood := { row := observeNoneUptoRow, standIns := [], harness := (true, "4bd4f54485e6e5637ca973640874b522d0cacae42cfc31cc2c01e6888db480f1"), looks := true }, kinds := [], alts := [], laidByText := true, laidKinds := [.data, .data, .data, .widerDeep, .widerDeep], laidTests := true, laidLooks := .later }
def ObserveNoneUptoCardSaid : Prop := Claim7.holds Tryz.pinned (.plain (OpenSpec.upto observeNoneSpec)) observeNoneUptoCard
end Rows
end Go.Proofs.YteffedbdfaiajaaGreatDoor
