/-
  NARROWER THAN 'FOR EVERY INPUT', by the rows' own cells (each row's printed sentence says how): CompileGroups: loops · CompileLists: loops · CompileComputes: loops.
  DERIVED. THE GIVEN ROWS OF THIS SEAT. 3 by the template 'for every input the law returns true; each argument reads behind the call as it read before'; 0 by the template 'total and deterministic' (their statements: YtdonenoiehdahaaGreatTotals.lean).
  GIVEN WITH THE SEED: the statements are not yours to turn. If you find one false, say at which input.
  Laid BY PROGRAM, IN A SANDBOX (cutbox-rows.mjs): the forced cells as the released guide's own fill.sh prints them over the translation 96122db6331b07ee… (all of the seat's roots in one cut). By AI agents, Wed Nov 11 2026. No macro, syntax, notation, axiom, sorry.
-/
import Derived.Test.YtdonenoiehdahaaGreatChecked
import GoSem.Claim
import GoSem.ClaimJoined
import GoSem.ClaimMapViews
import Derived.JoinedTies
import Derived.KernelRfl
namespace Go.Proofs.YtdonenoiehdahaaGreat
/- THE CELL 'sum', in the pinned program and in every row, IS THE sha256 OF THE DUMP (.gsa) THAT YtdonenoiehdahaaGreatProg.lean LOADS. Nothing in Lean hashes anything: it is a label: what it is worth is what the hold of that sum in a sandbox is worth. -/
noncomputable def Tryz.pinned : Pinned := { name := "ytdonenoiehdahaagreat", sum := "96122db6331b07eeb30fca56660e846ff72d29be189b7ab86687cb7f08e2bd33", checked := Tryz.checked }
namespace Rows
def none {H : Type} : Left H := { results := [], args := [] }

/-- 'gameplayerlaw21.CompileGroups': WHATEVER THE INPUT: true; the input reads as it did. -/
def compileGroupsSpec : ChangeSpec := { name := "compileGroups", fn := fun _ => fun
  | [d1, d2, d3] => { results := [.lit (.bool true)], args := [d1, d2, d3] }
  | _ => none }
def compileGroupsRow : OpenClaim := { program := "ytdonenoiehdahaagreat", sum := "96122db6331b07eeb30fca56660e846ff72d29be189b7ab86687cb7f08e2bd33", func := "gameplayer/gameplayerlaw21.CompileGroups", spec := "compileGroups", inPlace := ["internal/bytealg.abigen_runtime_cmpstring"], unfollowed := true, recurses := true, loops := true, plainKeys := false, apart := false }
def CompileGroupsSaid : Prop := compileGroupsRow.holds Tryz.pinned (OpenSpec.ofChange compileGroupsSpec)

/-- ITS FALSE NEIGHBOUR: 'it returns false'. Refute it at one input. -/
def compileGroupsWrong : ChangeSpec := { name := "compileGroups", fn := fun _ => fun
  | [d1, d2, d3] => { results := [.lit (.bool false)], args := [d1, d2, d3] }
  | _ => none }
def CompileGroupsWrongFalsely : Prop := compileGroupsRow.holds Tryz.pinned (OpenSpec.ofChange compileGroupsWrong)

/-- 'gameplayerlaw21.CompileLists': WHATEVER THE INPUT: true; the input reads as it did. -/
def compileListsSpec : ChangeSpec := { name := "compileLists", fn := fun _ => fun
  | [d1, d2, d3] => { results := [.lit (.bool true)], args := [d1, d2, d3] }
  | _ => none }
def compileListsRow : OpenClaim := { program := "ytdonenoiehdahaagreat", sum := "96122db6331b07eeb30fca56660e846ff72d29be189b7ab86687cb7f08e2bd33", func := "gameplayer/gameplayerlaw21.CompileLists", spec := "compileLists", inPlace := ["internal/bytealg.abigen_runtime_cmpstring"], unfollowed := true, recurses := true, loops := true, plainKeys := false, apart := false }
def CompileListsSaid : Prop := compileListsRow.holds Tryz.pinned (OpenSpec.ofChange compileListsSpec)

/-- ITS FALSE NEIGHBOUR: 'it returns false'. Refute it at one input. -/
def compileListsWrong : ChangeSpec := { name := "compileLists", fn := fun _ => fun
  | [d1, d2, d3] => { results := [.lit (.bool false)], args := [d1, d2, d3] }
  | _ => none }
def CompileListsWrongFalsely : Prop := compileListsRow.holds Tryz.pinned (OpenSpec.ofChange compileListsWrong)

/-- 'gameplayerlaw21.CompileComputes': WHATEVER THE INPUT: true; the input reads as it did. -/
def compileComputesSpec : ChangeSpec := { name := "compileComputes", fn := fun _ => fun
  | [d1, d2, d3] => { results := [.lit (.bool true)], args := [d1, d2, d3] }
  | _ => none }
def compileComputesRow : OpenClaim := { program := "ytdonenoiehdahaagreat", sum := "96122db6331b07eeb30fca56660e846ff72d29be189b7ab86687cb7f08e2bd33", func := "gameplayer/gameplayerlaw21.CompileComputes", spec := "compileComputes", inPlace := ["internal/bytealg.abigen_runtime_cmpstring"], unfollowed := true, recurses := true, loops := true, plainKeys := false, apart := false }
def CompileComputesSaid : Prop := compileComputesRow.holds Tryz.pinned (OpenSpec.ofChange compileComputesSpec)

/-- ITS FALSE NEIGHBOUR: 'it returns false'. Refute it at one input. -/
def compileComputesWrong : ChangeSpec := { name := "compileComputes", fn := fun _ => fun
  | [d1, d2, d3] => { results := [.lit (.bool false)], args := [d1, d2, d3] }
  | _ => none }
def CompileComputesWrongFalsely : Prop := compileComputesRow.holds Tryz.pinned (OpenSpec.ofChange compileComputesWrong)

/- THE SECOND FORM. 'bulk': how many values and letters a reading holds, each counted each time it is reached (what is shared counts as often as it is met; a slice's spare places count too). A statement '..UptoSaid' is the law's where the arguments, and the package variables that the reading takes, are together of bulk at most 1048576: NARROWER than '..Said'. Prove '..Said' where nothing that the law and all that it calls make is longer than what came in: it says more and counts as full. Else prove '..UptoSaid'. A law counts once. -/
mutual
def uptoBulk {H : Type} : DataW H → Nat
  | .lit (.string bytes) => bytes.length + 1
  | .lit _ => 1
  | .nil => 1
  | .ptr d => uptoBulk d + 1
  | .slice elems spare => uptoBulkAll elems + uptoBulkAll spare + 1
  | .agg parts => uptoBulkAll parts + 1
  | .iface _ d => uptoBulk d + 1
  | .map entries => uptoBulkEntries entries + 1
  | .held _ => 1
def uptoBulkAll {H : Type} : List (DataW H) → Nat
  | [] => 0
  | d :: r => uptoBulk d + uptoBulkAll r
def uptoBulkEntries {H : Type} : List (Lit × DataW H) → Nat
  | [] => 0
  | x :: r => uptoBulkEntry x + uptoBulkEntries r
def uptoBulkEntry {H : Type} : Lit × DataW H → Nat
  | (.string bytes, d) => bytes.length + uptoBulk d + 1
  | (_, d) => uptoBulk d + 1
 end
def uptoSmall : (H : Type) → List (DataW H) → Bool := fun _ ds => decide (uptoBulkAll ds ≤ 1048576)
def OpenSpec.upto (s : _root_.Go.ChangeSpec) : _root_.Go.OpenSpec := { _root_.Go.OpenSpec.ofChange s with cond := some uptoSmall }

/-- 'gameplayerlaw21.CompileGroups', WHERE WHAT IT READS IS OF BULK AT MOST 1048576: true; the input reads as it did. -/
def compileGroupsUptoRow : OpenClaim := { program := "ytdonenoiehdahaagreat", sum := "96122db6331b07eeb30fca56660e846ff72d29be189b7ab86687cb7f08e2bd33", func := "gameplayer/gameplayerlaw21.CompileGroups", spec := "compileGroups", inPlace := ["internal/bytealg.abigen_runtime_cmpstring"], unfollowed := true, recurses := true, loops := true, plainKeys := false, apart := false, narrowed := true }
def CompileGroupsUptoSaid : Prop := compileGroupsUptoRow.holds Tryz.pinned (OpenSpec.upto compileGroupsSpec)

/-- 'gameplayerlaw21.CompileLists', WHERE WHAT IT READS IS OF BULK AT MOST 1048576: true; the input reads as it did. -/
def compileListsUptoRow : OpenClaim := { program := "ytdonenoiehdahaagreat", sum := "96122db6331b07eeb30fca56660e846ff72d29be189b7ab86687cb7f08e2bd33", func := "gameplayer/gameplayerlaw21.CompileLists", spec := "compileLists", inPlace := ["internal/bytealg.abigen_runtime_cmpstring"], unfollowed := true, recurses := true, loops := true, plainKeys := false, apart := false, narrowed := true }
def CompileListsUptoSaid : Prop := compileListsUptoRow.holds Tryz.pinned (OpenSpec.upto compileListsSpec)

/-- 'gameplayerlaw21.CompileComputes', WHERE WHAT IT READS IS OF BULK AT MOST 1048576: true; the input reads as it did. -/
def compileComputesUptoRow : OpenClaim := { program := "ytdonenoiehdahaagreat", sum := "96122db6331b07eeb30fca56660e846ff72d29be189b7ab86687cb7f08e2bd33", func := "gameplayer/gameplayerlaw21.CompileComputes", spec := "compileComputes", inPlace := ["internal/bytealg.abigen_runtime_cmpstring"], unfollowed := true, recurses := true, loops := true, plainKeys := false, apart := false, narrowed := true }
def CompileComputesUptoSaid : Prop := compileComputesUptoRow.holds Tryz.pinned (OpenSpec.upto compileComputesSpec)

end Rows
end Go.Proofs.YtdonenoiehdahaaGreat
