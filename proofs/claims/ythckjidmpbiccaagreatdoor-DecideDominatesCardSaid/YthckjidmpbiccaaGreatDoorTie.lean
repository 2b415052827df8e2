/-
  DERIVED. GIVEN WITH THE SEED: THE PROGRAM's TIES (one call each: nine closed facts by the kernel) AND EACH ROW's TIE, after the 31st guide's Derived/Test/Toyas{Tie, Card}.lean. No idea stands in it: it is a product of the set-up. Laid BY PROGRAM, IN A SANDBOX (cutbox-door.mjs). By AI agents, Wed Nov 11 2026. No macro, syntax, notation, axiom, sorry.
-/
import Derived.Test.YthckjidmpbiccaaGreatDoorRows
import Derived.LaidByTextLater
import Derived.SevenTiedAt
import Derived.LaidSub
import Derived.LaidOnce
namespace Go.Proofs.YthckjidmpbiccaaGreatDoor
open Go
set_option maxRecDepth 100000
theorem seatTie1 : Tryz.prog.laidByTextLater [("math/bits.deBruijn32tab", Rows.laid_math_bits_deBruijn32tab), ("math/bits.deBruijn64tab", Rows.laid_math_bits_deBruijn64tab), ("internal/strconv.uint64pow10", Rows.laid_internal_strconv_uint64pow10), ("gameplayer/check.keywords", Rows.laid_gameplayer_check_keywords), ("gameplayer/exhaust.open", Rows.laid_gameplayer_exhaust_open), ("gameplayer/belief.one", Rows.laid_gameplayer_belief_one), ("gameplayer/belief.zero", Rows.laid_gameplayer_belief_zero)] [.data, .data, .data, .widerDeep, .data, .data, .data] true :=
  Program.laidByTextLater_by_one 56 8 65 (by kernel_rfl) (by kernel_rfl) (by kernel_rfl) (by kernel_rfl) (by kernel_rfl) (by kernel_rfl) (fun _ _ => by kernel_rfl)
theorem noOwnUnsafe : Tryz.pinned.checked.prog.headLifts.contains "ownunsafe" = false := by kernel_rfl
theorem tie : Tryz.prog.laidByTextLater [("math/bits.deBruijn32tab", Rows.laid_math_bits_deBruijn32tab), ("math/bits.deBruijn64tab", Rows.laid_math_bits_deBruijn64tab), ("internal/strconv.uint64pow10", Rows.laid_internal_strconv_uint64pow10), ("gameplayer/check.keywords", Rows.laid_gameplayer_check_keywords), ("gameplayer/exhaust.open", Rows.laid_gameplayer_exhaust_open), ("gameplayer/belief.one", Rows.laid_gameplayer_belief_one), ("gameplayer/belief.zero", Rows.laid_gameplayer_belief_zero)] [.data, .data, .data, .widerDeep, .data, .data, .data] true :=
  Program.laidByTextLater.sub seatTie1 ["math/bits.deBruijn32tab", "math/bits.deBruijn64tab", "internal/strconv.uint64pow10", "gameplayer/check.keywords", "gameplayer/exhaust.open", "gameplayer/belief.one", "gameplayer/belief.zero"] (by kernel_rfl) (by kernel_rfl)
theorem decideDominates_row_tie : Rows.decideDominatesRow.laidByTextAt .later Tryz.pinned [.data, .data, .data, .widerDeep, .data, .data, .data] true :=
  OpenClaim.laidByTextAt_later rfl rfl tie noOwnUnsafe
theorem decideDominatesUpto_row_tie : Rows.decideDominatesUptoRow.laidByTextAt .later Tryz.pinned [.data, .data, .data, .widerDeep, .data, .data, .data] true :=
  OpenClaim.laidByTextAt_later rfl rfl tie noOwnUnsafe
end Go.Proofs.YthckjidmpbiccaaGreatDoor
