/- Walks: R40's order of lists. -/
import Derived.Test.YtoikephldpcpgaaGreatDoorOwnTAnd
set_option linter.unusedVariables false
set_option linter.unusedSimpArgs false
set_option linter.all false
namespace Go.Proofs.YtoikephldpcpgaaGreatDoor
open Go Go.Abs Go.Own
attribute [local irreducible] WP
theorem Tryz.RI (a b:List Int) (ha:a.length≤1000000) (hb:b.length≤1000000):Pure Tryz.prog 35 [.list (a.map enI),.list (b.map enI)] [.int .i64 (cmpL a b)]:=by
 refine Pure.of_wp hT (nt:=_) (c:=_) Tryz.func35 rfl rfl rfl rfl (by kernel_rfl) ?_
 intro w0 ok0 β0
 repeat first | refine W1 ?_ | refine W3 ?_ | ((first | refine W2 hT hM [] ?_ | refine W4 ?_ | refine W5 ?_ | refine W6 ?_ | refine W7 ?_ rfl);conv=>whnf)
 refine WP.loop (α:=Nat) (fun i=>⟨[(0,.d (.list (a.map enI))),(1,.d (.list (b.map enI))),(5,.d (.int .i64 i))],[],[]⟩)
  (fun i=>i≤a.length∧i≤b.length∧cmpL a b=cmpL (a.drop i) (b.drop i)) (fun i=>a.length-i) 0 [] [] ?_ ?_ ?_
 ·((conv=>whnf);repeat (first | exact True.intro | (refine And.intro (by first | rfl | exact ⟨rfl,rfl,rfl⟩ | exact ⟨rfl,rfl,by simp⟩ | exact ⟨rfl,rfl⟩ | exact ⟨rfl,by simp⟩ | (simp;done) | (simp;omega)) ?_;conv=>whnf)))
 ·simp
 ·rintro i ⟨hia,hib,hi⟩
  repeat first | refine W1 ?_ | refine W3 ?_ | ((first | refine W2 hT hM [] ?_ | refine W4 ?_ | refine W5 ?_ | refine W6 ?_ | refine W7 ?_ rfl);conv=>whnf)
  (split<;>rename_i hb<;>(try rw [hb])<;>(conv=>whnf))
  ·have hlt:i<a.length:=by simpa using hb
   clear hb
   repeat first | refine W1 ?_ | refine W3 ?_ | ((first | refine W2 hT hM [] ?_ | refine W4 ?_ | refine W5 ?_ | refine W6 ?_ | refine W7 ?_ rfl);conv=>whnf)
   (split<;>rename_i hb<;>(try rw [hb])<;>(conv=>whnf))
   ·have h2:i<b.length:=by simpa using hb
    clear hb
    have hc:cmpL a b=if a[i]<b[i] then -1 else if b[i]<a[i] then 1 else cmpL (a.drop (i+1)) (b.drop (i+1)):=by
     rw [hi,iH hlt,iH h2];rfl
    repeat first | refine W1 ?_ | refine W3 ?_ | ((first | refine W2 hT hM [] ?_ | refine W4 ?_ | refine W5 ?_ | refine W6 ?_ | refine W7 ?_ rfl);conv=>whnf)
    refine ⟨by omega,_,aZ hlt,rfl,?_⟩
    conv=>whnf
    refine ⟨by omega,_,aZ h2,rfl,?_⟩
    conv=>whnf
    repeat first | refine W1 ?_ | refine W3 ?_ | ((first | refine W2 hT hM [] ?_ | refine W4 ?_ | refine W5 ?_ | refine W6 ?_ | refine W7 ?_ rfl);conv=>whnf)
    split
    ·rename_i h3
     have h3:a[i]<b[i]:=by simpa using h3
     repeat first | refine W1 ?_ | refine W3 ?_ | ((first | refine W2 hT hM [] ?_ | refine W4 ?_ | refine W5 ?_ | refine W6 ?_ | refine W7 ?_ rfl);conv=>whnf)
     rw [hc,if_pos h3]
    ·rename_i h3
     have h3:¬ a[i]<b[i]:=by simpa using h3
     repeat first | refine W1 ?_ | refine W3 ?_ | ((first | refine W2 hT hM [] ?_ | refine W4 ?_ | refine W5 ?_ | refine W6 ?_ | refine W7 ?_ rfl);conv=>whnf)
     refine ⟨by omega,_,aZ hlt,rfl,?_⟩
     conv=>whnf
     refine ⟨by omega,_,aZ h2,rfl,?_⟩
     conv=>whnf
     repeat first | refine W1 ?_ | refine W3 ?_ | ((first | refine W2 hT hM [] ?_ | refine W4 ?_ | refine W5 ?_ | refine W6 ?_ | refine W7 ?_ rfl);conv=>whnf)
     split
     ·rename_i h4
      have h4:b[i]<a[i]:=by simpa using h4
      repeat first | refine W1 ?_ | refine W3 ?_ | ((first | refine W2 hT hM [] ?_ | refine W4 ?_ | refine W5 ?_ | refine W6 ?_ | refine W7 ?_ rfl);conv=>whnf)
      rw [hc,if_neg h3,if_pos h4]
     ·rename_i h4
      have h4:¬ b[i]<a[i]:=by simpa using h4
      repeat first | refine W1 ?_ | refine W3 ?_ | ((first | refine W2 hT hM [] ?_ | refine W4 ?_ | refine W5 ?_ | refine W6 ?_ | refine W7 ?_ rfl);conv=>whnf)
      refine ⟨by omega,?_⟩
      conv=>whnf
      refine ⟨i+1,[],[],?_,⟨by omega,by omega,?_⟩,by omega⟩
      ·((conv=>whnf);repeat (first | exact True.intro | (refine And.intro (by first | rfl | exact ⟨rfl,rfl,rfl⟩ | exact ⟨rfl,rfl,by simp⟩ | exact ⟨rfl,rfl⟩ | exact ⟨rfl,by simp⟩ | (simp;done) | (simp;omega)) ?_;conv=>whnf)))
      ·rw [hc,if_neg h3,if_neg h4]
   ·have h2:i=b.length:=by simp at hb;omega
    subst h2
    repeat first | refine W1 ?_ | refine W3 ?_ | ((first | refine W2 hT hM [] ?_ | refine W4 ?_ | refine W5 ?_ | refine W6 ?_ | refine W7 ?_ rfl);conv=>whnf)
    split
    ·rename_i h;have h:a.length<b.length:=by simpa using h
     omega
    ·repeat first | refine W1 ?_ | refine W3 ?_ | ((first | refine W2 hT hM [] ?_ | refine W4 ?_ | refine W5 ?_ | refine W6 ?_ | refine W7 ?_ rfl);conv=>whnf)
     split
     ·repeat first | refine W1 ?_ | refine W3 ?_ | ((first | refine W2 hT hM [] ?_ | refine W4 ?_ | refine W5 ?_ | refine W6 ?_ | refine W7 ?_ rfl);conv=>whnf)
      rw [hi,List.drop_length,iH hlt]
      rfl
     ·rename_i h;exact absurd (show decide ((a.map enI).length>(b.map enI).length)=true by simpa using hlt) (by simpa using h)
  ·have hge:i=a.length:=by simp at hb;omega
   subst hge
   repeat first | refine W1 ?_ | refine W3 ?_ | ((first | refine W2 hT hM [] ?_ | refine W4 ?_ | refine W5 ?_ | refine W6 ?_ | refine W7 ?_ rfl);conv=>whnf)
   split
   ·rename_i h4
    have h4:a.length<b.length:=by simpa using h4
    repeat first | refine W1 ?_ | refine W3 ?_ | ((first | refine W2 hT hM [] ?_ | refine W4 ?_ | refine W5 ?_ | refine W6 ?_ | refine W7 ?_ rfl);conv=>whnf)
    rw [hi,List.drop_length,iH h4]
    rfl
   ·rename_i h4
    have h4:b.length=a.length:=by simp at h4;omega
    repeat first | refine W1 ?_ | refine W3 ?_ | ((first | refine W2 hT hM [] ?_ | refine W4 ?_ | refine W5 ?_ | refine W6 ?_ | refine W7 ?_ rfl);conv=>whnf)
    split
    ·rename_i h5;simp at h5;omega
    ·repeat first | refine W1 ?_ | refine W3 ?_ | ((first | refine W2 hT hM [] ?_ | refine W4 ?_ | refine W5 ?_ | refine W6 ?_ | refine W7 ?_ rfl);conv=>whnf)
     rw [hi,List.drop_length,← h4,List.drop_length]
     rfl
end Go.Proofs.YtoikephldpcpgaaGreatDoor
