/- Walks: what a set of lists is asked. -/
import Derived.Test.YtepmohahglddnaaGreatDoorOwnTAnd
set_option linter.unusedVariables false
set_option linter.unusedSimpArgs false
set_option linter.all false
namespace Go.Proofs.YtepmohahglddnaaGreatDoor
open Go Go.Abs Go.Own
attribute [local irreducible] WP
def LV (set:List (List Int)):Bool:=decide (set.length≤12)&&set.all fun r=>decide (r.length≤30)
theorem Xd {α:Type} {p:α→Bool} {l:List α} {i:Nat} (h:i<l.length) (ha:(l.take i).all p=true) (hp:p l[i]=true):(l.take (i+1)).all p=true:=by
 rw [List.take_succ_eq_append_getElem h,List.all_append,ha];simp [hp]
theorem aac {α:Type} {p:α→Bool} {l:List α} {i:Nat} (h:i<l.length) (hp:p l[i]=false):l.all p=false:=by
 rw [← Bool.not_eq_true]
 intro hall
 have:=List.all_eq_true.1 hall l[i] (List.getElem_mem h)
 rw [hp] at this;cases this
theorem Tryz.few (set:List (List Int)):Pure Tryz.prog 4 [.list (set.map enL)] [.bool (LV set)]:=by
 refine Pure.of_wp hT (nt:=_) (c:=_) Tryz.func4 rfl rfl rfl rfl (by kernel_rfl) ?_
 intro w0 ok0 β0
 repeat first | refine W1 ?_ | refine W3 ?_ | ((first | refine W2 hT hM [] ?_ | refine W4 ?_ | refine W5 ?_ | refine W6 ?_ | refine W7 ?_ rfl);conv=>whnf)
 (split<;>rename_i hb<;>(try rw [hb])<;>(conv=>whnf))
 ·repeat first | refine W1 ?_ | refine W3 ?_ | ((first | refine W2 hT hM [] ?_ | refine W4 ?_ | refine W5 ?_ | refine W6 ?_ | refine W7 ?_ rfl);conv=>whnf)
  have:¬ set.length≤12:=by simp at hb;omega
  simp [LV,this]
 ·have hs:set.length≤12:=by simp at hb;omega
  clear hb
  repeat first | refine W1 ?_ | refine W3 ?_ | ((first | refine W2 hT hM [] ?_ | refine W4 ?_ | refine W5 ?_ | refine W6 ?_ | refine W7 ?_ rfl);conv=>whnf)
  refine WP.loop (α:=Nat) (fun i=>⟨[(0,.d (.list (set.map enL))),(3,.d (.int .i64 i))],[],[]⟩) (fun i=>i≤set.length∧(set.take i).all (fun r=>decide (r.length≤30))=true) (fun i=>set.length-i) 0 [] [] ?_ ?_ ?_
  ·((conv=>whnf);repeat (first | exact True.intro | (refine And.intro (by first | rfl | exact ⟨rfl,rfl,rfl⟩ | exact ⟨rfl,rfl,by simp⟩ | exact ⟨rfl,rfl⟩ | exact ⟨rfl,by simp⟩ | (simp;done) | (simp;omega)) ?_;conv=>whnf)))
  ·simp
  ·rintro i ⟨hi,hall⟩
   repeat first | refine W1 ?_ | refine W3 ?_ | ((first | refine W2 hT hM [] ?_ | refine W4 ?_ | refine W5 ?_ | refine W6 ?_ | refine W7 ?_ rfl);conv=>whnf)
   (split<;>rename_i hb<;>(try rw [hb])<;>(conv=>whnf))
   ·have hlt:i<set.length:=by simpa using hb
    clear hb
    repeat first | refine W1 ?_ | refine W3 ?_ | ((first | refine W2 hT hM [] ?_ | refine W4 ?_ | refine W5 ?_ | refine W6 ?_ | refine W7 ?_ rfl);conv=>whnf)
    refine ⟨by omega,_,eF hlt,rfl,?_⟩
    conv=>whnf
    repeat first | refine W1 ?_ | refine W3 ?_ | ((first | refine W2 hT hM [] ?_ | refine W4 ?_ | refine W5 ?_ | refine W6 ?_ | refine W7 ?_ rfl);conv=>whnf)
    (split<;>rename_i hb<;>(try rw [hb])<;>(conv=>whnf))
    ·repeat first | refine W1 ?_ | refine W3 ?_ | ((first | refine W2 hT hM [] ?_ | refine W4 ?_ | refine W5 ?_ | refine W6 ?_ | refine W7 ?_ rfl);conv=>whnf)
     have:(fun r:List Int=>decide (r.length≤30)) set[i]=false:=by simp at hb ⊢;omega
     rw [LV,aac (p:=fun r=>decide (r.length≤30)) hlt this,Bool.and_false]
    ·repeat first | refine W1 ?_ | refine W3 ?_ | ((first | refine W2 hT hM [] ?_ | refine W4 ?_ | refine W5 ?_ | refine W6 ?_ | refine W7 ?_ rfl);conv=>whnf)
     refine ⟨by omega,?_⟩
     conv=>whnf
     refine ⟨i+1,[],[],?_,⟨by omega,Xd hlt hall (by simp at hb ⊢;omega)⟩,by omega⟩
     ((conv=>whnf);repeat (first | exact True.intro | (refine And.intro (by first | rfl | exact ⟨rfl,rfl,rfl⟩ | exact ⟨rfl,rfl,by simp⟩ | exact ⟨rfl,rfl⟩ | exact ⟨rfl,by simp⟩ | (simp;done) | (simp;omega)) ?_;conv=>whnf)))
   ·have:i=set.length:=by simp at hb;omega
    subst this
    repeat first | refine W1 ?_ | refine W3 ?_ | ((first | refine W2 hT hM [] ?_ | refine W4 ?_ | refine W5 ?_ | refine W6 ?_ | refine W7 ?_ rfl);conv=>whnf)
    rw [List.take_length] at hall
    rw [LV,hall]
    simp [hs]
end Go.Proofs.YtepmohahglddnaaGreatDoor
