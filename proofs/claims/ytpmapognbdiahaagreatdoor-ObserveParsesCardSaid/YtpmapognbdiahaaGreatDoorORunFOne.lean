/- ObserveParses: what the row's closed cells ask of the program, one by one; the call starts no goroutine by any text of the translation. -/
import Derived.Test.YtpmapognbdiahaaGreatDoorORunBOne
set_option linter.all false
namespace Go.Proofs.YtpmapognbdiahaaGreatDoor
open Go Go.RowKit Go.ChangeShapes Go.WideShapes Go.ChangeAt
theorem band {a b:Bool} (h:a=true) (k:b=true):(a&&b)=true:=by rw [h,k];rfl
theorem j_inPlace:(Rows.observeParsesRow.inPlace==Tryz.pinned.checked.prog.inPlace 3)=true:=by kernel_rfl
theorem j_unf:(Rows.observeParsesRow.unfollowed==Tryz.pinned.checked.prog.unfollowed 3)=true:=by kernel_rfl
theorem j_rec:(Rows.observeParsesRow.recurses==Tryz.pinned.checked.prog.recurses 3)=true:=by kernel_rfl
theorem j_named:(Rows.observeParsesRow.named==Tryz.pinned.checked.prog.varsNamed 3)=true:=by kernel_rfl
theorem j_lift:(Rows.observeParsesRow.lifted==Tryz.pinned.checked.prog.liftsFinal)=true:=by kernel_rfl
theorem Uj:joinedFacts Tryz.pinned.checked.prog 3 Tryz.f3 (OpenSpec.ofChange Rows.observeParsesSpec).bare Rows.observeParsesRow=true:=by
 unfold joinedFacts;exact band (band (band (band (band (band (band (band (band (band (band (band (band (band (band (band (band (band (band (band (band (band (band (by kernel_rfl) j_inPlace) j_unf) j_rec) j_named) (by kernel_rfl)) (by kernel_rfl)) (by kernel_rfl)) (by kernel_rfl)) (by kernel_rfl)) (by kernel_rfl)) (by kernel_rfl)) (by kernel_rfl)) (by kernel_rfl)) (by kernel_rfl)) (by kernel_rfl)) (by kernel_rfl)) (by kernel_rfl)) j_lift) (by kernel_rfl)) (by kernel_rfl)) (by kernel_rfl)) (by kernel_rfl)) (by kernel_rfl)
theorem goes_none:Tryz.prog.funcs.toList.any Func.goes=false:=by kernel_rfl
theorem UJ (P:Program) (h:P.funcs.toList.any Func.goes=false) (f:FuncId):P.goes f=false:=by
 have h0:∀ g:Nat,(P.funcs[g]?).any Func.goes=false:=fun g=>by
  cases hg:P.funcs[g]? with
  | none=>rfl
  | some fn=>
    have hm:fn∈P.funcs.toList:=by
     have:=Array.mem_of_getElem? hg
     simpa using this
    simpa using List.any_eq_false.1 h fn hm
 unfold Program.goes;rw [← Array.any_toList,h,Bool.and_false,Bool.or_false,List.any_eq_false];intro g _;simp [h0 g]
theorem UH (P:Program) (h:P.funcs.toList.any Func.goes=false) (c:OpenClaim) (hs:c.start = .entering):false=c.goesBy P:=by
 have e:P.goesFrom c.func=false:=by
  unfold Program.goesFrom;cases P.funcNamed c.func with
  | none=>rfl
  | some f=>exact UJ P h f
 unfold OpenClaim.goesBy Program.goesAt;rw [e,hs];rfl
theorem goes_by:false=Rows.observeParsesRow.goesBy Tryz.prog:=UH _ goes_none _ rfl
end Go.Proofs.YtpmapognbdiahaaGreatDoor
