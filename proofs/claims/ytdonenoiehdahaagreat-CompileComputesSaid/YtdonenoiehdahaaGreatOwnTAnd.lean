/- The seat's table of types and the calculus, for the walks. -/
import Derived.Test.YtdonenoiehdahaaGreatTabOne
import Derived.Test.YtdonenoiehdahaaGreatAbsSAnd
import Derived.KernelRfl
set_option linter.all false
namespace Go.Proofs.YtdonenoiehdahaaGreat
open Go Go.Abs
theorem gw {C:Ctx} {c:Code} {Q:Exit→SL→Prop} {l:SL} (hg:isGo c=true) (h:goF Tryz.prog T C c Q l):WP Tryz.prog C c Q l:=WP.go hT hM hg h
end Go.Proofs.YtdonenoiehdahaaGreat
namespace Go.Own
def aT (a b:Int):Int:=if a<b then -1 else if b<a then 1 else 0
def cmpL:List Int→List Int→Int
 | [],[]=>0
 | [],_::_=>-1
 | _::_,[]=>1
 | a::l,b::m=>if a<b then -1 else if b<a then 1 else cmpL l m
theorem fJ {a b:Int}:aT a b=0↔a=b:=by
 unfold aT;split
 ·constructor<;>intro<;>omega
 ·split
  ·constructor<;>intro<;>omega
  ·constructor<;>intro<;>omega
theorem VU {a b:Int}:aT a b<0↔a<b:=by
 unfold aT;split
 ·constructor<;>intro<;>omega
 ·split
  ·constructor<;>intro<;>omega
  ·constructor<;>intro<;>omega
end Go.Own
namespace Go.Proofs.YtdonenoiehdahaaGreat
open Go Go.Abs Go.Own
attribute [local irreducible] WP
def enI (n:Int):D := .int .i64 n
theorem ay {α:Type} {f:α→D} {a:List α} {i:Nat} (h:i<a.length):(a.map f)[((i:Int)).toNat]?=some (f a[i]):=by simp [h]
theorem Tryz.zA (a:Int):Pure Tryz.prog 134 [.int .i64 a] [.bool false]:=by
 refine Pure.of_wp hT (nt:=_) (c:=_) Tryz.func134 rfl rfl rfl rfl (by kernel_rfl) ?_;intro w0 ok0 β0;repeat (refine gw rfl ?_;conv=>whnf)
 simp
theorem Tryz.ints (a b:List Int) (ha:a.length≤1000000) (hb:b.length≤1000000):Pure Tryz.prog 40 [.list (a.map enI),.list (b.map enI)] [.bool (a==b)]:=by
 refine Pure.of_wp hT (nt:=_) (c:=_) Tryz.func40 rfl rfl rfl rfl (by kernel_rfl) ?_;intro w0 ok0 β0;repeat (refine gw rfl ?_;conv=>whnf)
 split
 ·rename_i h;repeat (refine gw rfl ?_;conv=>whnf)
  simp at h ⊢;rintro rfl;exact h rfl
 ·rename_i h;have hl:a.length=b.length:=by simp at h;omega
  repeat (refine gw rfl ?_;conv=>whnf)
  refine WP.loop (α:=Nat) (fun i=>⟨[(0,.d (.list (a.map enI))),(1,.d (.list (b.map enI))),(12,.d (.int .i64 a.length)),(13,.d (.int .i64 i))],[],[]⟩) (fun i=>i≤a.length∧a.take i=b.take i) (fun i=>a.length-i) 0 [] [] ?_ ?_ ?_
  ·((conv=>whnf);repeat (first | exact ⟨⟩ | (refine ⟨by first | rfl | (simp;done) | (simp;omega),?_⟩;conv=>whnf)))
  ·simp
  ·intro i hi;(repeat (refine gw rfl ?_;conv=>whnf));split
   ·rename_i hlt;have hlt:i<a.length:=(by simpa using hlt);(repeat (refine gw rfl ?_;conv=>whnf));refine ⟨by omega,_,ay hlt,rfl,?_⟩;(conv=>whnf);refine ⟨by omega,_,ay (by omega),rfl,?_⟩;(conv=>whnf);(repeat (refine gw rfl ?_;conv=>whnf));split
    ·rename_i hne;(repeat (refine gw rfl ?_;conv=>whnf));have:a≠b:=by rintro rfl;simp at hne
     simpa using this
    ·rename_i he;(repeat (refine gw rfl ?_;conv=>whnf));refine ⟨by omega,?_⟩;(conv=>whnf);refine ⟨i+1,[],[],?_,⟨by omega,?_⟩,by omega⟩
     ·((conv=>whnf);repeat (first | exact ⟨⟩ | (refine ⟨by first | rfl | (simp;done) | (simp;omega),?_⟩;conv=>whnf)))
     ·have e:a[i]=b[i]:=(by simpa using he);rw [List.take_succ_eq_append_getElem hlt,List.take_succ_eq_append_getElem (by omega),hi.2,e]
   ·rename_i hge;have:i=a.length:=(by simp at hge;omega);subst this;(repeat (refine gw rfl ?_;conv=>whnf));have:=hi.2;rw [List.take_length,hl,List.take_length] at this;simp [this]
end Go.Proofs.YtdonenoiehdahaaGreat
