/- Sim: facts of function 19 (gameplayer/gameplayerlaw28.awake). Printed by a program (SimF.lean). -/
import Derived.Test.YtjjiblgcmdbcoaaGreatDoorSimDM17One
set_option linter.unusedVariables false
set_option linter.unusedSimpArgs false
set_option linter.all false
namespace Go.Proofs.YtjjiblgcmdbcoaaGreatDoor
open Go Go.Sim

noncomputable def dM18_0 : Fact := ⟨[], [(1, .blk true 40 [(.str 4 1919904869), (.int .i64 (.ofNat 1)), (.bool true), (.bool true), (.str 4 1768843636), (.int .i64 (.ofNat 1)), (.bool true), (.bool false), (.str 4 1953658213), (.int .i64 (.ofNat 1)), (.bool false), (.bool true), (.str 4 1685022067), (.int .i64 (.ofNat 2)), (.bool false), (.bool true), (.str 5 465557741932), (.int .i64 (.ofNat 2)), (.bool true), (.bool false), (.str 4 1852143732), (.int .i64 (.ofNat 1)), (.bool true), (.bool false), (.str 8 8387235695293260140), (.int .i64 (.ofNat 0)), (.bool true), (.bool false), (.str 4 1735352684), (.int .i64 (.ofNat 2)), (.bool true), (.bool false), (.str 4 1936024947), (.int .i64 (.ofNat 2)), (.bool true), (.bool false), (.str 8 7235441220169655156), (.int .i64 (.ofNat 2)), (.bool false), (.bool true)])], 5, (.bool true), [], [1], [], 24765⟩
theorem dM18_0_ok : factB T FFM17 5 1000 1000 19 dM18_0 = true := by kernel_rfl
noncomputable def FFM18 : Nat → Option FC := ovl T 5 19 fe19 [dM18_0] FFM17
theorem hFM18 (w0 : World) : FOKC Tryz.prog T w0 5 FFM18 := ovl_ok (hFM17 w0) (facts_cons (fact_of hT (hFM17 w0) (b19 w0 5) dM18_0_ok) facts_nil) (b19 w0 5)
end Go.Proofs.YtjjiblgcmdbcoaaGreatDoor

/- Sim: facts of function 3 (gameplayer/gameplayerlaw28.MachineNil). Printed by a program (SimF.lean). -/
namespace Go.Proofs.YtjjiblgcmdbcoaaGreatDoor
open Go Go.Sim

noncomputable def dM19_0 : Fact := ⟨[.any, .any], [(1, .blk true 40 [(.str 4 1919904869), (.int .i64 (.ofNat 1)), (.bool true), (.bool true), (.str 4 1768843636), (.int .i64 (.ofNat 1)), (.bool true), (.bool false), (.str 4 1953658213), (.int .i64 (.ofNat 1)), (.bool false), (.bool true), (.str 4 1685022067), (.int .i64 (.ofNat 2)), (.bool false), (.bool true), (.str 5 465557741932), (.int .i64 (.ofNat 2)), (.bool true), (.bool false), (.str 4 1852143732), (.int .i64 (.ofNat 1)), (.bool true), (.bool false), (.str 8 8387235695293260140), (.int .i64 (.ofNat 0)), (.bool true), (.bool false), (.str 4 1735352684), (.int .i64 (.ofNat 2)), (.bool true), (.bool false), (.str 4 1936024947), (.int .i64 (.ofNat 2)), (.bool true), (.bool false), (.str 8 7235441220169655156), (.int .i64 (.ofNat 2)), (.bool false), (.bool true)])], 5, (.bool true), [], [1], [], 24768⟩
theorem dM19_0_ok : factB T FFM18 5 1000 1000 3 dM19_0 = true := by kernel_rfl
theorem dM_fact (w0 : World) : FactT Tryz.prog T w0 5 3 dM19_0 := fact_of hT (hFM18 w0) (b3 w0 5) dM19_0_ok
end Go.Proofs.YtjjiblgcmdbcoaaGreatDoor
