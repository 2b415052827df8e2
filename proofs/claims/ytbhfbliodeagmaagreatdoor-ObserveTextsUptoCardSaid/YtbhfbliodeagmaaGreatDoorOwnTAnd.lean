/- The seat's table of types and the calculus, for the walks. -/
import Derived.Test.YtbhfbliodeagmaaGreatDoorSimTabOne
import Derived.Test.YtbhfbliodeagmaaGreatDoorAbsRAnd
import Derived.Test.YtbhfbliodeagmaaGreatDoorOwnMOne
set_option linter.all false
namespace Go.Proofs.YtbhfbliodeagmaaGreatDoor
open Go Go.Abs
theorem gw {C:Ctx} {c:Code} {Q:Exit→SL→Prop} {l:SL} (hg:isGo c=true) (h:goF Tryz.prog T C c Q l):WP Tryz.prog C c Q l:=WP.go hT hM hg h
end Go.Proofs.YtbhfbliodeagmaaGreatDoor
namespace Go.Proofs.YtbhfbliodeagmaaGreatDoor
open Go Go.Abs Go.Own
attribute [local irreducible] WP
theorem Jo {α:Type} {f:α→D} {a:List α} {i:Nat} (h:i<a.length):(a.map f)[((i:Int)).toNat]?=some (f a[i]):=by simp [h]
end Go.Proofs.YtbhfbliodeagmaaGreatDoor
