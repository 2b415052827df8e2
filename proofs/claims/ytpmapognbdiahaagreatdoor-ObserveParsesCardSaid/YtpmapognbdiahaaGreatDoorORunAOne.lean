/- The start of a run that looks at read-only variables alone, in one world. -/
import Derived.Test.YtpmapognbdiahaaGreatDoorSimW3And
set_option linter.all false
namespace Go.Sim
open Go Go.RowKit
open Go.Abs (TE TK SK TOK)
theorem FY {P:Program} {T:Nat→TE} {ng f:Nat} {F:Fact} {gs:List Nat} {cs:Nat→List V} {us:Nat→List Value} {vs:List Value} {b:Bool} {w:World}
  (h:bD P T w ng f F) (hp:F.pre=gs.map fun k=>(k,.blk true (cs k).length (cs k))) (hk:∀ k∈gs,k<ng) (hv:F.v = .bool b) (hm:F.m=ng)
  (ha:∀ g,RVL g ng F.args vs) (hw:∀ k∈gs,∃ cur Tb fz,w.heap[k]?=some (.cells cur Tb fz)∧(cs k).length≤cur.size∧∀ i,i<(us k).length→cur[i]?=(us k)[i]?) (hl:∀ k∈gs,(us k).length=(cs k).length)
  (hr:∀ k∈gs,∀ (g:Gh) (i:Nat) c u,(cs k)[i]?=some c→(us k)[i]?=some u→RV g ng c u∧u.oneCell'=true) :
  Calls P f vs.toArray w fun e w'=>e = .returned (.bool b)∧Below w.heap.size w w':=by
 obtain ⟨t1,⟨_,h1⟩,_⟩:=h.run;have hget:∀ (i:B) (o:Obj),i.get (eY F.pre .lf)=some o→i.num∈gs∧o = .blk true (cs i.num).length (cs i.num).length (fB (cs i.num) .lf 0):=fun i o ho=>by
  rcases tJ F.pre .lf i o ho with ⟨fo,h1,h2⟩ | h1
  ·rw [hp] at h1;obtain ⟨k,hk,he⟩:=List.mem_map.1 h1;simp only [Prod.mk.injEq] at he;obtain ⟨e1,rfl⟩:=he;rw [← e1];exact ⟨hk,h2⟩
  ·rw [B.dO] at h1;cases h1
 have hst:HR T w ng (fun id=>⟨id.num,0,(cs id.num).length⟩) (fun id=>id.get (eY F.pre .lf)) ⟨ng⟩ w:=by
  refine ⟨rfl,rfl,rfl,Nat.le_refl _,fun _ _=>rfl,fun id o ho=>?_,fun id id' o o' ho _ _ hro=>?_,fun id o ho hro=>?_,fun i _=>⟨qx i,rfl⟩,Nat.le_refl _⟩
  ·obtain ⟨e1,rfl⟩:=hget id o ho;obtain ⟨cur,Tb,fz,hw0,hc0,hcur⟩:=hw _ e1;have hl0:=hl _ e1;refine ⟨hk _ e1,cur,Tb,fz,hw0,(fun h=>by cases h),by simpa using hc0,Nat.le_refl _,fun j v hj=>?_⟩;rw [bY] at hj;split at hj
   ·rename_i hj';have hj2:j<(cs id.num).length:=(by omega);refine ⟨hj2,(us id.num)[j]'(by omega),?_,?_⟩
    ·show cur[0+j]?=_;rw [Nat.zero_add,hcur j (by omega)];exact List.getElem?_eq_getElem _
    ·exact hr _ e1 _ j v _ (by simpa using hj) (List.getElem?_eq_getElem _)
   ·rw [B.dO] at hj;cases hj
  ·obtain ⟨_,rfl⟩:=hget id o ho;cases hro
  ·obtain ⟨_,rfl⟩:=hget id o ho;cases hro
 rw [hv,hm] at h1;refine (h1 _ _ w vs hst (fun id o ho=>ho) (ha _)).mono ?_;rintro e w' ⟨g',hp',val,rfl,st,hval⟩;exact ⟨by cases hval;rfl,st.hr.os,st.hr.tape,st.hr.output,st.sz,fun k hk=>st.hr.old k hk⟩
end Go.Sim
