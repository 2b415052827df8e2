/- No variable is looked at. -/
import Derived.Test.YtoifejgcmkencaaGreatAbs0One
set_option linter.unusedVariables false
set_option linter.unusedSimpArgs false
set_option linter.all false
namespace Go.Abs
open Go
def gl (g:Nat):List D:=match Nat.beq g 1000000 with | true=>[] | false=>[]
theorem Zw (g:Nat):gl g=[]:=by unfold gl;split<;>rfl
end Go.Abs
