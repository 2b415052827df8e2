/-
  DERIVED. GIVEN WITH THE SEED: THE CARDS: each row of YtpmapognbdiahaaGreatDoorRows.lean that lists a variable, with what it lists TIED to the program's text (the seventh form; the later family's looks); each row that meets fmt, with fmt's text TOLD by the authors' own Lean function (tested against real Go, not proved from fmt's source: count such statements apart). THE CARD IS WHAT COUNTS. Prove the row's statement (the work); the ties are given (YtpmapognbdiahaaGreatDoorTie.lean); close each card by the builder's one call (the guide's Derived/Test/ToyasCard.lean, 'card_holds'). Laid BY PROGRAM, IN A SANDBOX (cutbox-door.mjs). By AI agents, Wed Nov 11 2026. No macro, syntax, notation, axiom, sorry.
-/
import Derived.Test.YtpmapognbdiahaaGreatDoorRows
import GoSem.ClaimSeven
namespace Go.Proofs.YtpmapognbdiahaaGreatDoor
namespace Rows

/-- THE TIED CARD OF 'gameplayerlaw39.ObserveParses'. -/
def observeParsesCard : Claim7 := { stood := { row := observeParsesRow, standIns := [], harness := (true, "a2c31bce041a1a226cf6914cf2cfa7c59585accc44b29b1b3a5a23214f233331"), looks := true }, kinds := [], alts := [], laidByText := true, laidKinds := [.data, .data, .data, .widerDeep, .widerDeep], laidTests := true, laidLooks := .later }
def ObserveParsesCardSaid : Prop := Claim7.holds Tryz.pinned (.plain (OpenSpec.ofChange observeParsesSpec)) observeParsesCard

/-- THE SECOND FORM's CARD OF 'gameplayerlaw39.ObserveParses'. -/
def observeParsesUptoCard : Claim7 := { stood := { row := observeParsesUptoRow, standIns := [], harness := (true, "a2c31bce041a1a226cf6914cf2cfa7c59585accc44b29b1b3a5a23214f233331"), looks := true }, kinds := [], alts := [], laidByText := true, laidKinds := [.data, .data, .data, .widerDeep, .widerDeep], laidTests := true, laidLooks := .later }
def ObserveParsesUptoCardSaid : Prop := Claim7.holds Tryz.pinned (.plain (OpenSpec.upto observeParsesSpec)) observeParsesUptoCard
end Rows
end Go.Proofs.YtpmapognbdiahaaGreatDoor
