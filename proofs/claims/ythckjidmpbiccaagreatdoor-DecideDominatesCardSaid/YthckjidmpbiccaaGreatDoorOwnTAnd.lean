/- The seat's table of types and the calculus, for the walks. -/
import Derived.Test.YthckjidmpbiccaaGreatDoorSimTabOne
import Derived.Test.YthckjidmpbiccaaGreatDoorAbsRAnd
import Derived.Test.YthckjidmpbiccaaGreatDoorOwnMOne
set_option linter.unusedVariables false
set_option linter.unusedSimpArgs false
set_option linter.all false
namespace Go.Proofs.YthckjidmpbiccaaGreatDoor
open Go Go.Abs Go.Own
attribute [local irreducible] WP
def enI (n:Int):D := .int .i64 n
theorem jd {α:Type} {f:α→D} {a:List α} {i:Nat} (h:i<a.length):(a.map f)[((i:Int)).toNat]?=some (f a[i]):=by simp [h]
theorem Tryz.ints (a b:List Int) (ha:a.length≤1000000) (hb:b.length≤1000000):Pure Tryz.prog 6 [.list (a.map enI),.list (b.map enI)] [.bool (a==b)]:=by
 refine Pure.of_wp hT (nt:=_) (c:=_) Tryz.func6 rfl rfl rfl rfl (by kernel_rfl) ?_
 intro w0 ok0 β0
 repeat first | refine W1 ?_ | refine W3 ?_ | ((first | refine W2 hT hM [] ?_ | refine W4 ?_ | refine W5 ?_ | refine W6 ?_ | refine W7 ?_ rfl);conv=>whnf)
 split
 ·rename_i h
  repeat first | refine W1 ?_ | refine W3 ?_ | ((first | refine W2 hT hM [] ?_ | refine W4 ?_ | refine W5 ?_ | refine W6 ?_ | refine W7 ?_ rfl);conv=>whnf)
  simp at h ⊢
  rintro rfl;exact h rfl
 ·rename_i h
  have hl:a.length=b.length:=by simp at h;omega
  repeat first | refine W1 ?_ | refine W3 ?_ | ((first | refine W2 hT hM [] ?_ | refine W4 ?_ | refine W5 ?_ | refine W6 ?_ | refine W7 ?_ rfl);conv=>whnf)
  refine WP.loop (α:=Nat) (fun i=>⟨[(0,.d (.list (a.map enI))),(1,.d (.list (b.map enI))),(12,.d (.int .i64 a.length)),(13,.d (.int .i64 i))],[],[]⟩) (fun i=>i≤a.length∧a.take i=b.take i) (fun i=>a.length-i) 0 [] [] ?_ ?_ ?_
  ·((conv=>whnf);repeat (first | exact True.intro | (refine And.intro (by first | rfl | exact ⟨rfl,rfl,rfl⟩ | exact ⟨rfl,rfl,by simp⟩ | exact ⟨rfl,rfl⟩ | exact ⟨rfl,by simp⟩ | (simp;done) | (simp;omega)) ?_;conv=>whnf)))
  ·simp
  ·intro i hi
   repeat first | refine W1 ?_ | refine W3 ?_ | ((first | refine W2 hT hM [] ?_ | refine W4 ?_ | refine W5 ?_ | refine W6 ?_ | refine W7 ?_ rfl);conv=>whnf)
   split
   ·rename_i hlt
    have hlt:i<a.length:=by simpa using hlt
    repeat first | refine W1 ?_ | refine W3 ?_ | ((first | refine W2 hT hM [] ?_ | refine W4 ?_ | refine W5 ?_ | refine W6 ?_ | refine W7 ?_ rfl);conv=>whnf)
    refine ⟨by omega,_,jd hlt,rfl,?_⟩
    conv=>whnf
    refine ⟨by omega,_,jd (by omega),rfl,?_⟩
    conv=>whnf
    repeat first | refine W1 ?_ | refine W3 ?_ | ((first | refine W2 hT hM [] ?_ | refine W4 ?_ | refine W5 ?_ | refine W6 ?_ | refine W7 ?_ rfl);conv=>whnf)
    split
    ·rename_i hne
     repeat first | refine W1 ?_ | refine W3 ?_ | ((first | refine W2 hT hM [] ?_ | refine W4 ?_ | refine W5 ?_ | refine W6 ?_ | refine W7 ?_ rfl);conv=>whnf)
     have:a≠b:=by rintro rfl;simp at hne
     simpa using this
    ·rename_i he
     repeat first | refine W1 ?_ | refine W3 ?_ | ((first | refine W2 hT hM [] ?_ | refine W4 ?_ | refine W5 ?_ | refine W6 ?_ | refine W7 ?_ rfl);conv=>whnf)
     refine ⟨by omega,?_⟩
     conv=>whnf
     refine ⟨i+1,[],[],?_,⟨by omega,?_⟩,by omega⟩
     ·((conv=>whnf);repeat (first | exact True.intro | (refine And.intro (by first | rfl | exact ⟨rfl,rfl,rfl⟩ | exact ⟨rfl,rfl,by simp⟩ | exact ⟨rfl,rfl⟩ | exact ⟨rfl,by simp⟩ | (simp;done) | (simp;omega)) ?_;conv=>whnf)))
     ·have e:a[i]=b[i]:=by simpa using he
      rw [List.take_succ_eq_append_getElem hlt,List.take_succ_eq_append_getElem (by omega),hi.2,e]
   ·rename_i hge
    have:i=a.length:=by simp at hge;omega
    subst this
    repeat first | refine W1 ?_ | refine W3 ?_ | ((first | refine W2 hT hM [] ?_ | refine W4 ?_ | refine W5 ?_ | refine W6 ?_ | refine W7 ?_ rfl);conv=>whnf)
    have:=hi.2
    rw [List.take_length,hl,List.take_length] at this
    simp [this]
end Go.Proofs.YthckjidmpbiccaaGreatDoor
namespace Go.Proofs.YthckjidmpbiccaaGreatDoor
open Go Go.Abs Go.Own
attribute [local irreducible] WP
end Go.Proofs.YthckjidmpbiccaaGreatDoor
