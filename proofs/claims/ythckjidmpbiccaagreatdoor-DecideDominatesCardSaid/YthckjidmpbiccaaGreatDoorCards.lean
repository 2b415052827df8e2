/-
  DERIVED. GIVEN WITH THE SEED: THE CARDS: each row of YthckjidmpbiccaaGreatDoorRows.lean that lists a variable, with what it lists TIED to the program's text (the seventh form; the later family's looks); each row that meets fmt, with fmt's text TOLD by the authors' own Lean function (tested against real Go, not proved from fmt's source: count such statements apart). THE CARD IS WHAT COUNTS. Prove the row's statement (the work); the ties are given (YthckjidmpbiccaaGreatDoorTie.lean); close each card by the builder's one call (the guide's Derived/Test/ToyasCard.lean, 'card_holds'). Laid BY PROGRAM, IN A SANDBOX (cutbox-door.mjs). By AI agents, Wed Nov 11 2026. No macro, syntax, notation, axiom, sorry.
-/
import Derived.Test.YthckjidmpbiccaaGreatDoorRows
import GoSem.ClaimSeven
namespace Go.Proofs.YthckjidmpbiccaaGreatDoor
namespace Rows

/-- THE TIED CARD OF 'gameplayerlaw42.DecideDominates'. -/
def decideDominatesCard : Claim7 := { stood := { row := decideDominatesRow, standIns := [], harness := (true, "d73ba15f1f6093910f7fbaad31905c6501d70a07c8f394088e1d3bae1bb80626"), looks := false }, kinds := [], alts := [], laidByText := true, laidKinds := [.data, .data, .data, .widerDeep, .data, .data, .data], laidTests := true, laidLooks := .later }
def DecideDominatesCardSaid : Prop := Claim7.holds Tryz.pinned (.plain (OpenSpec.ofChange decideDominatesSpec)) decideDominatesCard

/-- THE SECOND FORM's CARD OF 'gameplayerlaw42.DecideDominates'. -/
def decideDominatesUptoCard : Claim7 := { stood := { row := decideDominatesUptoRow, standIns := [], harness := (true, "d73ba15f1f6093910f7fbaad31905c6501d70a07c8f394088e1d3bae1bb80626"), looks := false }, kinds := [], alts := [], laidByText := true, laidKinds := [.data, .data, .data, .widerDeep, .data, .data, .data], laidTests := true, laidLooks := .later }
def DecideDominatesUptoCardSaid : Prop := Claim7.holds Tryz.pinned (.plain (OpenSpec.upto decideDominatesSpec)) decideDominatesUptoCard
end Rows
end Go.Proofs.YthckjidmpbiccaaGreatDoor
