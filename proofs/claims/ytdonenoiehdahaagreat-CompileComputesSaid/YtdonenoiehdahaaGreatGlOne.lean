/- No variable is looked at. -/
import Derived.Test.YtdonenoiehdahaaGreatAbs0One
set_option linter.all false
namespace Go.Abs
open Go
def gl (g:Nat):List D:=match Nat.beq g 1000000 with | true=>[] | false=>[]
theorem Zk (g:Nat):gl g=[]:=by unfold gl;split<;>rfl
end Go.Abs
