/- Plain laws of lists of integers: orders, insertion, what is in all and in some. -/
import Derived.KernelRfl
set_option linter.all false
namespace Go.Own
def jc (a b:Int):Int:=if a<b then -1 else if b<a then 1 else 0
theorem QU {a b:Int}:jc a b=0↔a=b:=by
 unfold jc;split
 ·constructor<;>intro<;>omega
 ·split
  ·constructor<;>intro<;>omega
  ·constructor<;>intro<;>omega
end Go.Own
