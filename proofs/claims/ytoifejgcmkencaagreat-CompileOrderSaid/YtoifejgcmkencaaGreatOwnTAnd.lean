/- The seat's table of types and the calculus, for the walks. -/
import Derived.Test.YtoifejgcmkencaaGreatSimTabOne
import Derived.Test.YtoifejgcmkencaaGreatAbsRAnd
import Derived.KernelRfl
set_option linter.unusedVariables false
set_option linter.unusedSimpArgs false
set_option linter.all false
namespace Go.Own
def eU (a b:Int):Int:=if a<b then -1 else if b<a then 1 else 0
def cmpL:List Int→List Int→Int
 | [],[]=>0
 | [],_::_=>-1
 | _::_,[]=>1
 | a::l,b::m=>if a<b then -1 else if b<a then 1 else cmpL l m
theorem sS {a b:Int}:eU a b=0↔a=b:=by
 unfold eU
 split
 ·constructor<;>intro<;>omega
 ·split
  ·constructor<;>intro<;>omega
  ·constructor<;>intro<;>omega
theorem Vh {a b:Int}:eU a b<0↔a<b:=by
 unfold eU
 split
 ·constructor<;>intro<;>omega
 ·split
  ·constructor<;>intro<;>omega
  ·constructor<;>intro<;>omega
end Go.Own
namespace Go.Proofs.YtoifejgcmkencaaGreat
open Go Go.Abs Go.Own
attribute [local irreducible] WP
def enI (n:Int):D := .int .i64 n
theorem bC {α:Type} {f:α→D} {a:List α} {i:Nat} (h:i<a.length):(a.map f)[((i:Int)).toNat]?=some (f a[i]):=by simp [h]
theorem Tryz.Gt (a:Int):Pure Tryz.prog 105 [.int .i64 a] [.bool false]:=by
 refine Pure.of_wp hT (nt:=_) (c:=_) Tryz.func105 rfl rfl rfl rfl (by kernel_rfl) ?_
 intro w0 ok0 β0
 repeat first | refine W1 ?_ | refine W3 ?_ | ((first | refine W2 hT hM [] ?_ | refine W4 ?_ | refine W5 ?_ | refine W6 ?_ | refine W7 ?_ rfl);conv=>whnf)
 simp
end Go.Proofs.YtoifejgcmkencaaGreat
