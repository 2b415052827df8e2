/- Plain laws of lists of integers: orders, insertion, what is in all and in some. -/
import Derived.KernelRfl
set_option linter.unusedVariables false
set_option linter.unusedSimpArgs false
set_option linter.all false
namespace Go.Own
def yB (a b:Int):Int:=if a<b then -1 else if b<a then 1 else 0
def cmpL:List Int→List Int→Int
 | [],[]=>0
 | [],_::_=>-1
 | _::_,[]=>1
 | a::l,b::m=>if a<b then -1 else if b<a then 1 else cmpL l m
theorem RI {a b:Int}:yB a b=0↔a=b:=by
 unfold yB
 split
 ·constructor<;>intro<;>omega
 ·split
  ·constructor<;>intro<;>omega
  ·constructor<;>intro<;>omega
def Asc (l:List Int):Prop:=l.Pairwise (·<·)
theorem lT {α:Type} {R:α→α→Prop} (ht:∀ a b c,R a b→R b c→R a c):∀ {l:List α},(∀ i,(h:i+1<l.length)→R l[i] l[i+1])→l.Pairwise R
 | [],_ => .nil
 | [a],_=>List.pairwise_singleton _ _
 | a::b::l,h=>by
   have ih:(b::l).Pairwise R:=lT ht fun i hi=>by have:=h (i+1) (by simpa using hi);simpa using this
   refine List.pairwise_cons.2 ⟨fun c hc=>?_,ih⟩
   have hab:R a b:=h 0 (by simp)
   rcases List.mem_cons.1 hc with rfl | hc
   ·exact hab
   ·exact ht _ _ _ hab ((List.pairwise_cons.1 ih).1 c hc)
end Go.Own
