/- Pure data. -/
import Derived.Orders
set_option linter.all false
namespace Go.Abs
open Go
inductive D where
 | bool (b:Bool)
 | int (k:IntKind) (n:Int)
 | str (s:List UInt8)
 | list (xs:List D)
 | agg (cs:List D)
 | ref (cs:List D) (off:Nat)
 | fC
 | map (es:List (D×D))
 | fn (f:FuncId) (cs:List D)
 deriving Inhabited
def D.cells:D→List D
 | .agg cs=>cs
 | x=>[x]
def D.one:D→Bool
 | .agg _=>false
 | _=>true
end Go.Abs
