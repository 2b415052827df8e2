/- The start of a run that looks at one read-only variable, and the law's run. -/
import Derived.Test.YtdbkblcekmogkaaGreatDoorSimW3And
import Derived.Test.YtdbkblcekmogkaaGreatDoorCards
import Derived.Test.YtdbkblcekmogkaaGreatDoorTie
import Derived.WalkKit
import Derived.ProofKit
import Derived.OpenShut
import Derived.Deep.DeepHandedRow
import Derived.Lib.LaidTab
set_option linter.unusedVariables false
set_option linter.unusedSimpArgs false
set_option linter.all false
namespace Go.Sim
open Go Go.RowKit
open Go.Abs (TE TK SK TOK)
theorem Gf {P:Program} {T:Nat→TE} {ng f k:Nat} {F:Fact} {cs:List V} {us vs:List Value} {b:Bool} {cur:Array Value} {Tb:TypeId} {fz:Nat×Nat} {w:World}
  (h:∀ w0,aZ P T w0 ng f F) (hp:F.pre=[(k,.blk true cs.length cs)]) (hk:k<ng) (hv:F.v = .bool b) (hm:F.m=ng)
  (ha:∀ g,RVL g ng F.args vs) (hw:w.heap[k]?=some (.cells cur Tb fz)) (hc:cs.length≤cur.size) (hl:us.length=cs.length)
  (hr:∀ (g:Gh) (i:Nat) c u,cs[i]?=some c→us[i]?=some u→RV g ng c u∧u.oneCell'=true) (hcur:∀ i,i<us.length→cur[i]?=us[i]?) :
  Calls P f vs.toArray w fun e w'=>e = .returned (.bool b)∧Below w.heap.size w w':=by
 obtain ⟨t1,⟨_,h1⟩,_⟩:=(h w).run
 have hget:∀ (i:B) (o:Obj),i.get (iD F.pre .lf)=some o→i.num=k∧o = .blk true cs.length cs.length (fD cs .lf 0):=fun i o ho=>by
  rcases sS F.pre .lf i o ho with ⟨fo,h1,h2⟩ | h1
  ·rw [hp] at h1
   have:=List.mem_singleton.1 h1
   cases this
   exact ⟨rfl,h2⟩
  ·rw [B.dF] at h1;cases h1
 have hst:HR T w ng (fun id=>⟨id.num,0,cs.length⟩) (fun id=>id.get (iD F.pre .lf)) ⟨ng⟩ w:=by
  refine ⟨rfl,rfl,rfl,Nat.le_refl _,fun _ _=>rfl,fun id o ho=>?_,fun id id' o o' ho _ _ hro=>?_,fun id o ho hro=>?_,fun i _=>⟨uF i,rfl⟩,Nat.le_refl _⟩
  ·obtain ⟨e1,rfl⟩:=hget id o ho
   refine ⟨by rw [e1];exact hk,cur,Tb,fz,by rw [← hw];show w.heap[id.num]?=_;rw [e1],(fun h=>by cases h),by simpa using hc,Nat.le_refl _,fun j v hj=>?_⟩
   rw [bW] at hj
   split at hj
   ·rename_i hj'
    have hj2:j<cs.length:=by omega
    refine ⟨hj2,us[j]'(by omega),?_,?_⟩
    ·show cur[0+j]?=_
     rw [Nat.zero_add,hcur j (by omega)];exact List.getElem?_eq_getElem _
    ·exact hr _ j v _ (by simpa using hj) (List.getElem?_eq_getElem _)
   ·rw [B.dF] at hj;cases hj
  ·obtain ⟨_,rfl⟩:=hget id o ho
   cases hro
  ·obtain ⟨_,rfl⟩:=hget id o ho
   cases hro
 rw [hv,hm] at h1
 refine (h1 _ _ w vs hst (fun id o ho=>ho) (ha _)).mono ?_
 rintro e w' ⟨g',hp',val,rfl,st,hval⟩
 exact ⟨by cases hval;rfl,st.hr.os,st.hr.tape,st.hr.output,st.sz,fun k hk=>st.hr.old k hk⟩
end Go.Sim
namespace Go.Proofs.YtdbkblcekmogkaaGreatDoor
open Go Go.RowKit
def Qv:Lit→Value
 | .bool b => .bool b
 | .int k n => .int k n
 | .string s => .string ⟨s.toArray⟩
 | .float k b => .float k b
 | .nil => .nilIface
def NM {H:Type} (d:DataW H):List Value:=match d with
 | .agg [.lit a,.lit b,.lit c,.lit e]=>[Qv a,Qv b,Qv c,Qv e]
 | _=>[]
def pK:List Value:=match (Rows.laid_gameplayer_check_keywords:DataW Unit) with
 | .agg ds=>ds.flatMap NM
 | _=>[]
set_option maxRecDepth 100000 in
theorem Qh {H:Type} {enc:TypeId×Value→H} {w:World} {base:Nat} {sp:Nat→Bool} {held:Bool} {fuel:Nat} {cs:List Value} {x:DataW H×List MemPlace}
  (h:DataW.trod enc Tryz.prog w base sp held fuel 275 cs=some x):cs=NM x.1∧cs.length=4:=by
 obtain ⟨xs,n,_,rfl,hl,hlen,hf⟩:=DataW.trod_struct Tryz.underlying275 h
 have hl:cs.length=4:=hl.trans (by kernel_rfl)
 match xs,hlen,cs,hl with
 | [y0,y1,y2,y3],_,[c0,c1,c2,c3],_=>
   have f0:=hf 0 _ rfl
   have f1:=hf 1 _ rfl
   have f2:=hf 2 _ rfl
   have f3:=hf 3 _ rfl
   have k9:Tryz.prog.cellsOf 9=1:=by kernel_rfl
   have k3:Tryz.prog.cellsOf 3=1:=by kernel_rfl
   have k4:Tryz.prog.cellsOf 4=1:=by kernel_rfl
   simp only [k9,k3,k4,List.drop,List.take,List.getElem?_cons_zero,List.getElem?_cons_succ] at f0 f1 f2 f3
   obtain ⟨s,e0,rfl,_⟩:=DataW.trod_string Tryz.underlying9 f0
   obtain ⟨m,e1,rfl,_⟩:=DataW.trod_int Tryz.underlying3 f1
   obtain ⟨b,e2,rfl⟩:=DataW.trod_bool Tryz.underlying4 f2
   obtain ⟨b',e3,rfl⟩:=DataW.trod_bool Tryz.underlying4 f3
   cases e0;cases e1;cases e2;cases e3
   exact ⟨by simp [NM,Qv],rfl⟩
theorem Du {n:Nat}:∀ (m:Nat) (cs:List Value) (rs:List (List Value)),cs.length=m*n→rs.length=m→(∀ i,i<m→rs[i]?=some ((cs.drop (i*n)).take n))→cs=rs.flatten
 | 0,cs,rs,hl,hr,_=>by
   obtain rfl:cs=[]:=by simpa using hl
   obtain rfl:rs=[]:=by simpa using hr
   rfl
 | m+1,cs,r::rs,hl,hr,h=>by
   have h0:=h 0 (by omega)
   simp at h0
   subst h0
   have:=Du (n:=n) m (cs.drop n) rs (by rw [List.length_drop,hl,Nat.add_mul];omega) (by simpa using hr) fun i hi=>by
    have:=h (i+1) (by omega)
    rw [List.getElem?_cons_succ] at this
    rw [this,List.drop_drop,Nat.add_mul,Nat.one_mul,Nat.add_comm]
   rw [List.flatten_cons,← this,List.take_append_drop]
 | m+1,cs,[],_,hr,_=>by cases hr
set_option maxRecDepth 100000 in
theorem P9 {H:Type} {enc:TypeId×Value→H} {w:World} {base:Nat} {sp:Nat→Bool} {held:Bool} {fuel:Nat} {cs:List Value} {p:List MemPlace}
  {ds:List (DataW H)} (h:DataW.trod enc Tryz.prog w base sp held fuel 327 cs=some (.agg ds,p)):cs=ds.flatMap NM∧cs.length=40:=by
 obtain ⟨xs,n,_,hx,hl,hlen,hf⟩:=DataW.trod_array Tryz.underlying327 h
 have k:Tryz.prog.cellsOf 275=4:=by kernel_rfl
 have hl:cs.length=40:=hl.trans (by kernel_rfl)
 rw [k] at hf
 cases hx
 refine ⟨?_,hl⟩
 rw [List.flatMap_def,List.map_map]
 refine Du (n:=4) 10 cs _ hl (by simpa using hlen) fun i hi=>?_
 have h1:=hf i hi
 rw [List.getElem?_map]
 obtain ⟨y,hy⟩:∃ y,xs[i]?=some y:=⟨_,List.getElem?_eq_getElem (by omega)⟩
 rw [hy] at h1 ⊢
 exact congrArg some (Qh h1).1.symm
set_option maxRecDepth 100000 in
theorem aeC {w:World} (h:laidMetH Tryz.prog Rows.infosetCertainRow.laid w):∃ cur t fz,w.heap[1]?=some (.cells cur t fz)∧cur.toList=pK:=by
 have h:laidMet Tryz.prog Rows.infosetCertainRow.laid w:=h
 obtain ⟨ps,hv,_⟩:=h
 obtain ⟨_,_,_,_,_,_,_,_,_,_,hv,_⟩:=hv
 obtain ⟨_,_,_,_,_,_,_,_,_,_,hv,_⟩:=hv
 obtain ⟨_,_,_,_,_,_,_,_,_,_,hv,_⟩:=hv
 obtain ⟨g,t,cs,fuel,p,q,hg,ht,hvar,hd,_,_⟩:=hv
 have hg1:Tryz.prog.globalNamed "gameplayer/check.keywords" = some 1:=by kernel_rfl
 have ht1:(Tryz.prog.globals[1]?).map (·.type)=some 327:=by kernel_rfl
 obtain rfl:=Option.some.inj (hg1.symm.trans hg)
 obtain rfl:=Option.some.inj (ht1.symm.trans ht)
 have hcs:=(P9 hd).1
 unfold World.var? at hvar
 rw [hg1,Option.bind_some] at hvar
 split at hvar
 ·rename_i cs' t' fz' hw
  cases hvar
  exact ⟨_,_,_,hw,hcs⟩
 ·cases hvar
end Go.Proofs.YtdbkblcekmogkaaGreatDoor
