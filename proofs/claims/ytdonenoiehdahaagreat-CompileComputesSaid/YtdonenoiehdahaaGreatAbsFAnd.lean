/- Memory of the call's own: cells made, read and written. -/
import Derived.Test.YtdonenoiehdahaaGreatAbsAAnd
set_option linter.all false
namespace Go.Abs
open Go Go.RowKit
def mJ (id:Nat):Nat→List V→List (Key×Option Res)
 | _,[]=>[]
 | off,x::r=>((id,off),some (.cell x))::mJ id (off+1) r
theorem iC (id:Nat) (k:Key) (r:Option Res):∀ (xs:List V) (off:Nat),(k,r)∈mJ id off xs↔∃ j x,xs[j]?=some x∧k=(id,off+j)∧r=some (.cell x)
 | [],off=>by simp [mJ]
 | x::xs,off=>by
   simp only [mJ,List.mem_cons,iC id k r xs (off+1),Prod.mk.injEq];constructor
   ·rintro (⟨rfl,rfl⟩ | ⟨j,y,h1,h2,h3⟩)
    ·exact ⟨0,x,rfl,rfl,rfl⟩
    ·exact ⟨j+1,y,by simpa using h1,by rw [h2];congr 1;omega,h3⟩
   ·rintro ⟨j,y,h1,h2,h3⟩;cases j with
    | zero=>simp at h1;subst h1;exact .inl ⟨by simpa using h2,h3⟩
    | succ j=>exact .inr ⟨j,y,by simpa using h1,by rw [h2];congr 1;omega,h3⟩
def ghost (β:Nat→Value) (id:Nat) (v:Value):Nat→Value:=fun i=>if i=id then v else β i
theorem lK {β:Nat→Value} {id:Nat} {v:Value} {u:Nat→Prop} (h:¬ u id) (i:Nat) (hi:u i):ghost β id v i=β i:=by
 unfold ghost;rw [if_neg (fun e:i=id=>h (e ▸ hi))]
theorem aJ (β:Nat→Value) (id:Nat) (v:Value):ghost β id v id=v:=by simp [ghost]
section
variable {C:Ctx} {β:Nat→Value} {ok:Nat→Prop} {s:S} {a:Act} {w:World}
theorem RelB.size_le (h:RelB C β ok s a w):C.w0.heap.size≤w.heap.size:=h.frame.size
theorem RelB.uZ (h:RelB C β ok s a w) {β':Nat→Value} (hβ:∀ i,s.used i→β' i=β i) (o:Obj) {k:Key} {r:Res} (hr:s.hp k=some r) {b:Nat} (hb:Blk β' (w.alloc o) k r b):Blk β w k r b:=
 Blk.mono (hβ k.1 (h.heap k r hr).1) (fun b hb=>heap_alloc_old w o b (h.sep k r b hr hb).2.1) hb
theorem Blk.cell {k:Key} {x:V} {b:Nat} (h:Blk β w k (.cell x) b):aB (β k.1)=some b:=h.elim id (fun h=>h.elim)
theorem Blk.arr {k:Key} {sz:Nat} {xs:List D} {b:Nat} (h:Blk β w k (.arr sz xs) b):aB (β k.1)=some b:=h.elim id (fun h=>h.elim)
theorem Blk.map {k:Key} {es:List (D×D)} {b:Nat} (h:Blk β w k (.map es) b):aB (β k.1)=some b:=h.elim id (fun h=>h.elim)
theorem RelB.LK (h:RelB C β ok s a w) {dst:Option Tmp} (hd:∀ d,dst=some d→d<C.nt) {id:Nat} (hid:¬ s.used id) {cells:Array Value} (t:TypeId) {xs:List V}
  (hl:cells.size=xs.length) (hx:∀ (j:Nat) v x,cells[j]?=some v→xs[j]?=some x→RdV β s.used ok w v x∧v.oneCell'=true) :
  ∃ β',RelB C β' ok (s.apply dst (.ptr id 0) (mJ id 0 xs) [id]) (a.put dst (.pointer (some ⟨w.heap.size,0,none⟩))) (w.alloc (.cells cells t)):=by
 have hsz:=h.size_le;have hβ:=lK (β:=β) (v := .pointer (some ⟨w.heap.size,0,none⟩)) hid;have hk:=iE h.okb (.cells cells t)
 refine ⟨ghost β id (.pointer (some ⟨w.heap.size,0,none⟩)),h.step hd hβ (fun _ h=>h) hk (.ptr id 0 w.heap.size (.inr (by simp)) (aJ _ _ _)) (fun k r hr _ b hb=>?_) (fun k r hm=>?_) (fun k k' r r' b hm hr hb hb'=>?_)
  (fun b hb=>by have:=h.okb b hb;simp;omega) (fun b hb => .inl hb) (h.frame.alloc _)⟩
 ·have:=h.sep k r b hr hb;exact ⟨⟨this.1,by simp;omega⟩,.inl (heap_alloc_old w _ b this.2.1)⟩
 ·obtain ⟨j,x,h1,rfl,h3⟩:=(iC id k _ xs 0).1 hm;cases h3;have hj:j<cells.size:=by rw [hl];exact (List.getElem?_eq_some_iff.1 h1).1
  have hv:cells[j]?=some cells[j]:=by simp [hj]
  obtain ⟨h4,h5⟩:=hx j _ x hv h1;refine ⟨.inr (by simp),⟨w.heap.size,cells,t,cells[j],aJ _ _ _,heap_alloc_new w _,by simp [hj],h5,h4.mono hβ (fun i hi => .inl hi) hk (fun _ h=>h)⟩,fun b hb=>?_⟩;have hb:=hb.cell;simp only [aJ,aB,Option.some.injEq] at hb;subst hb;exact ⟨fun hc=>by have:=h.okb _ hc;omega,by simp,fun hc=>by omega⟩
 ·obtain ⟨j,x,h1,rfl,h3⟩:=(iC id k _ xs 0).1 hm;cases h3;have hb:=hb.cell;simp only [aJ,aB,Option.some.injEq] at hb;subst hb;rcases dY s.hp (mJ id 0 xs) k' with ⟨e,hno⟩ | ⟨r0,hm',e⟩
  ·have hr':s.hp k'=some r':=e.symm.trans hr;have:=(h.sep k' r' _ hr' (h.uZ hβ _ hr' hb')).2.1;omega
  ·obtain ⟨j',x',h1',h2',_⟩:=(iC id k' _ xs 0).1 hm';rw [h2']
theorem kY {wr:Nat→Nat→Prop} {w0 w:World} (h:Frame wr w0 w) {b:Nat} {cur new:Array Value} {T:TypeId} (hb:w.heap[b]?=some (.cells cur T (0,0))) (hs:new.size=cur.size)
  (hw:b<w0.heap.size→∀ o,¬ wr b o→new[o]?=cur[o]?) (hw':b<w0.heap.size→∃ o,wr b o):Frame wr w0 (w.setRow b new):=by
 refine ⟨h.os,h.tape,h.output,by rw [size_setRow];exact h.size,fun b' hb' hn=>?_,fun b' c T' fz hc=>?_⟩
 ·by_cases e:b'=b
  ·subst e;obtain ⟨o,ho⟩:=hw' hb';exact absurd ho (hn o)
  ·rw [setRow_other w b b' new e];exact h.blk b' hb' hn
 ·obtain ⟨c',h1,h2,h3⟩:=h.cel b' c T' fz hc;by_cases e:b'=b
  ·subst e;rw [hb] at h1;simp only [Option.some.injEq,Obj.cells.injEq] at h1;obtain ⟨rfl,rfl,rfl⟩:=h1;exact ⟨new,setRow_heap w b' cur new T (0,0) hb,by rw [hs,h2],fun o ho=>by rw [hw (Array.getElem?_eq_some_iff.1 hc).1 o ho];exact h3 o ho⟩
  ·exact ⟨c',by rw [setRow_other w b b' new e];exact h1,h2,h3⟩
theorem yw {b:Nat} {new:Array Value} (hn:¬ ok b):Keeps ok w (w.setRow b new):=fun b' hb'=>setRow_other w b b' new (fun e=>hn (e ▸ hb'))
def patch (cur:Array Value) (o:Nat) (vs:List Value):Array Value:=(cur.toList.take o++vs++cur.toList.drop (o+vs.length)).toArray
theorem fC {cur:Array Value} {o:Nat} {vs:List Value} (h:o+vs.length≤cur.size):(patch cur o vs).size=cur.size:=by
 simp [patch];omega
theorem jg {cur:Array Value} {o:Nat} {vs:List Value} (h:o+vs.length≤cur.size) {i:Nat} (hi:i<o∨o+vs.length≤i):(patch cur o vs)[i]?=cur[i]?:=by
 simp only [patch,List.getElem?_toArray];rcases hi with hi | hi
 ·rw [List.append_assoc,List.getElem?_append_left (by simp;omega),List.getElem?_take_of_lt hi];simp
 ·rw [List.getElem?_append_right (by simp;omega),List.getElem?_drop];simp only [List.length_append,List.length_take,Array.length_toList];rw [show o+vs.length+(i-(min o cur.size+vs.length))=i by omega];simp
theorem pz {cur:Array Value} {o:Nat} {vs:List Value} (h:o+vs.length≤cur.size) {i:Nat} (hi:i<vs.length):(patch cur o vs)[o+i]?=vs[i]?:=by
 simp only [patch,List.getElem?_toArray];rw [List.append_assoc,List.getElem?_append_right (by simp;omega),List.getElem?_append_left (by simp;omega)];congr 1;simp;omega
theorem RelB.BI (h:RelB C β ok s a w) {id off:Nat} {x0:V} (hx0:s.hp (id,off)=some (.cell x0)) {b:Nat} (hbl:aB (β id)=some b) {k:Key} {r:Res} (hr:s.hp k=some r) (hnc:∀ x,r ≠ .cell x) {b':Nat} (hb':Blk β w k r b'):b'≠b:=by
 intro e;subst e;have hid:k.1=id:=h.inj k (id,off) r _ b' hr hx0 hb' (.inl hbl);obtain ⟨_,_,_,_,_,e1,_⟩:=h.heap _ _ hx0;obtain ⟨k1,k2⟩:=k;simp only at hid e1;subst hid;obtain ⟨_,ho⟩:=h.heap _ _ hr;cases r with
 | cell x=>exact hnc x rfl
 | arr sz ys=>
   obtain ⟨_,a',cap,f1,_⟩:=ho;simp only at f1;rw [e1] at f1;cases f1
 | map es=>
   obtain ⟨_,r',ents,clock,f1,_⟩:=ho;simp only at f1;rw [e1] at f1;cases f1
 | rows sz rs out=>
   obtain ⟨_,⟨a',cap,f1,_⟩,_⟩:=ho;simp only at f1;rw [e1] at f1;cases f1
theorem RelB.V6 (h:RelB C β ok s a w) {id off:Nat} {x0:V} (hx0:s.hp (id,off)=some (.cell x0)) {b:Nat} (hbl:aB (β id)=some b) (new:Array Value) {k:Key} {r:Res} (hr:s.hp k=some r) {b':Nat} (hb':Blk β (w.setRow b new) k r b'):Blk β w k r b':=by
 by_cases hc:∃ x,r = .cell x
 ·obtain ⟨x,rfl⟩:=hc;exact .inl hb'.cell
 ·exact Blk.mono rfl (fun c hc'=>setRow_other w b c new (h.BI hx0 hbl hr (fun x e=>hc ⟨x,e⟩) hc')) hb'
theorem RelB.storeCells (h:RelB C β ok s a w) {dst:Option Tmp} (hd:∀ d,dst=some d→d<C.nt) {id off:Nat} {xs:List V} (hne:xs≠[]) (hown:∀ j,j<xs.length→∃ x,s.hp (id,off+j)=some (.cell x))
  {vs:List Value} (hl:vs.length=xs.length) (hx:∀ (j:Nat) v x,vs[j]?=some v→xs[j]?=some x→RdV β s.used ok w v x∧v.oneCell'=true) (vd:Value) :
  ∃ b cur T,β id = .pointer (some ⟨b,0,none⟩)∧w.heap[b]?=some (.cells cur T (0,0))∧off+vs.length≤cur.size ∧
    RelB C β ok (s.apply dst .any (mJ id off xs) []) (a.put dst vd) (w.setRow b (patch cur off vs)):=by
 have hpos:0<xs.length:=List.length_pos_iff.2 hne;obtain ⟨x0,hx0⟩:=hown 0 hpos;obtain ⟨hu0,b,cur,T,v0,e1,e2,e3,e4,e5⟩:=h.heap _ _ hx0;have hbl:aB (β id)=some b:=by rw [show β id=_ from e1];rfl
 have hsep:=h.sep _ _ b hx0 (.inl hbl);have hcell:∀ j,j<xs.length→off+j<cur.size:=fun j hj=>by
  obtain ⟨x,hx⟩:=hown j hj;obtain ⟨_,b',cur',T',v',f1,f2,f3,_,_⟩:=h.heap _ _ hx;rw [show β id=_ from e1] at f1;simp at f1;subst f1;rw [e2] at f2;simp at f2;obtain ⟨rfl,rfl⟩:=f2;exact (Array.getElem?_eq_some_iff.1 f3).1
 have hfit:off+vs.length≤cur.size:=by have:=hcell (xs.length-1) (by omega);omega
 have hk:Keeps ok w (w.setRow b (patch cur off vs)):=yw hsep.1;have hmono:∀ {v x},RdV β s.used ok w v x→RdV β (fun i=>s.used i∨i∈([]:List Nat)) ok (w.setRow b (patch cur off vs)) v x:=fun hv=>hv.mono (fun _ _=>rfl) (fun i hi => .inl hi) hk (fun _ h=>h)
 have hnewrow:=setRow_heap w b cur (patch cur off vs) T (0,0) e2
 refine ⟨b,cur,T,e1,e2,hfit,h.step hd (fun _ _=>rfl) (fun _ h=>h) hk (.any _) (fun k r hr hno b' hb'=>?_) (fun k r hm=>?_) (fun k k' r r' b' hm hr hb hb'=>?_)
  (fun b hb=>by rw [size_setRow];exact h.okb b hb) (fun b hb => .inl hb) (kY h.frame e2 (fC hfit) (fun hb0 o ho=>?_) (fun hb0=>⟨off,?_⟩))⟩
 ·have hs:=h.sep k r b' hr hb';refine ⟨⟨hs.1,by rw [size_setRow];exact hs.2.1⟩,?_⟩;by_cases e:b'=b
  ·right;subst e;have hid:k.1=id:=h.inj k (id,off+0) r _ b' hr hx0 hb' (.inl hbl);cases r with
   | cell x=>
     obtain ⟨k1,k2⟩:=k;simp only at hid;subst hid;obtain ⟨_,ho⟩:=h.heap _ _ hr;refine ⟨⟨x,rfl⟩,?_⟩;obtain ⟨b2,c2,T2,v2,f1,f2,f3,f4,f5⟩:=ho;rw [show β k1=_ from e1] at f1;simp at f1;subst f1;rw [e2] at f2;simp at f2;obtain ⟨rfl,rfl⟩:=f2;refine ⟨b',patch cur off vs,T,v2,e1,hnewrow,?_,f4,hmono f5⟩;rw [jg hfit]
     ·exact f3
     ·rcases Nat.lt_or_ge k2 off with hlt | hge
      ·exact .inl hlt
      ·rcases Nat.lt_or_ge k2 (off+vs.length) with hlt | hge'
       ·exfalso;have hj:k2-off<xs.length:=(by omega);exact hno (some (.cell xs[k2-off])) ((iC k1 (k1,k2) _ xs off).2 ⟨k2-off,_,by simp [hj],by congr 1;omega,rfl⟩)
       ·exact .inr hge'
   | arr sz ys=>exact absurd rfl (h.BI hx0 hbl hr (fun x e=>by cases e) hb')
   | map es=>exact absurd rfl (h.BI hx0 hbl hr (fun x e=>by cases e) hb')
   | rows sz rs out=>exact absurd rfl (h.BI hx0 hbl hr (fun x e=>by cases e) hb')
  ·exact .inl (setRow_other w b b' _ e)
 ·obtain ⟨j,x,h1,rfl,h3⟩:=(iC id k _ xs off).1 hm;cases h3;have hj:j<xs.length:=(List.getElem?_eq_some_iff.1 h1).1;have hv:vs[j]?=some vs[j]:=by simp
  obtain ⟨h4,h5⟩:=hx j _ x hv h1;refine ⟨.inl hu0,⟨b,patch cur off vs,T,vs[j],e1,hnewrow,by simp only;rw [pz hfit (by omega)];exact hv,h5,hmono h4⟩,fun b' hb'=>?_⟩;have hb':=hb'.cell;simp only [hbl,Option.some.injEq] at hb';subst hb';refine ⟨hsep.1,by rw [size_setRow];exact hsep.2.1,fun hc=>?_⟩;obtain ⟨x',hx'⟩:=hown j hj;exact (h.sep _ _ b hx' (.inl hbl)).2.2 hc
 ·obtain ⟨j,x,h1,rfl,h3⟩:=(iC id k _ xs off).1 hm;cases h3;have hb:=hb.cell;simp only [hbl,Option.some.injEq] at hb;subst hb;rcases dY s.hp (mJ id off xs) k' with ⟨e,hno⟩ | ⟨r0,hm',e⟩
  ·have hr':s.hp k'=some r':=e.symm.trans hr;exact (h.inj k' (id,off+0) r' _ b hr' hx0 (h.V6 hx0 hbl _ hr' hb') (.inl hbl)).symm
  ·obtain ⟨j',x',h1',h2',_⟩:=(iC id k' _ xs off).1 hm';rw [h2']
 ·refine jg hfit ?_;rcases Nat.lt_or_ge o off with hlt | hge
  ·exact .inl hlt
  ·rcases Nat.lt_or_ge o (off+vs.length) with hlt | hge'
   ·exfalso;obtain ⟨x',hx'⟩:=hown (o-off) (by omega);have:=((h.sep _ _ b hx' (.inl hbl)).2.2 hb0).2;simp only at this;rw [show off+(o-off)=o by omega] at this;exact ho this
   ·exact .inr hge'
 ·exact (hsep.2.2 hb0).2
end
section
variable {C:Ctx} {β:Nat→Value} {ok:Nat→Prop} {s:S} {a:Act} {w:World}
theorem RelB.other (h:RelB C β ok s a w) {id sz b:Nat} {xs:List D} (hr:s.hp (id,0)=some (.arr sz xs)) (hb:aB (β id)=some b) {k:Key} {r:Res} (hk:s.hp k=some r) (hne:k≠(id,0)):¬ Blk β w k r b:=by
 intro hb';have hid:=h.inj k (id,0) r _ b hk hr hb' (.inl hb);obtain ⟨k1,k2⟩:=k;simp only at hid;subst hid;obtain ⟨_,ho⟩:=h.heap _ _ hk;obtain ⟨_,_,a',cap,f1,_⟩:=h.heap _ _ hr;cases r with
 | cell x=>obtain ⟨b2,c2,T2,v2,g1,_⟩:=ho;simp only at f1 g1;rw [f1] at g1;cases g1
 | arr sz' ys=>exact hne (by have:=ho.1;simp only at this;rw [this])
 | map es=>exact hne (by have:=ho.1;simp only at this;rw [this])
 | rows sz rs out=>exact hne (by have:=ho.1;simp only at this;rw [this])
theorem RelB.Ye (h:RelB C β ok s a w) {id sz b:Nat} {xs:List D} (hr:s.hp (id,0)=some (.arr sz xs)) (hb:aB (β id)=some b) (new:Array Value) {k:Key} {r:Res} (hk:s.hp k=some r) {b':Nat} (hb':Blk β (w.setRow b new) k r b'):Blk β w k r b':=by
 by_cases hne:k=(id,0)
 ·subst hne;rw [hr] at hk;cases hk;exact .inl hb'.arr
 ·exact Blk.mono rfl (fun c hc'=>setRow_other w b c new (fun e=>h.other hr hb hk hne (e ▸ hc'))) hb'
theorem RelB.UQ (h:RelB C β ok s a w) {dst:Option Tmp} (hd:∀ d,dst=some d→d<C.nt) {id:Nat} (hid:¬ s.used id) {cur:Array Value} (T:TypeId) {sz cap:Nat} {xs:List D} (hsz:0<sz)
  (hcap:xs.length≤cap) (hm:cap≤maxLen) (hw:∀ (i:Nat) x,xs[i]?=some x→x.cells.length=sz) (hcs:cap*sz≤cur.size)
  (hx:∀ (i:Nat) x (j:Nat) c,xs[i]?=some x→x.cells[j]?=some c→∃ u,cur[i*sz+j]?=some u∧RdD ok w u c∧u.oneCell'=true∧c.one=true) :
  ∃ β',RelB C β' ok (s.apply dst (.sl id sz 0 xs.length) [((id,0),some (.arr sz xs))] [id]) (a.put dst (.slice (some ⟨w.heap.size,0,none⟩) xs.length cap)) (w.alloc (.cells cur T)):=by
 have hsize:=h.size_le;have hβ:=lK (β:=β) (v := .slice (some ⟨w.heap.size,0,none⟩) xs.length cap) hid;have hk:=iE h.okb (.cells cur T);have hblk:∀ b,aB (Value.slice (some ⟨w.heap.size,0,none⟩) xs.length cap)=some b→b=w.heap.size:=fun b hb=>by
  cases cap<;>simp [aB] at hb;exact hb.symm
 refine ⟨ghost β id (.slice (some ⟨w.heap.size,0,none⟩) xs.length cap),h.step hd hβ (fun _ h=>h) hk
  (.sl id sz 0 xs.length xs.length cap _ _ (.inr (by simp)) (aJ _ _ _) (by omega) hm (fun _=>⟨w.heap.size,0,rfl,by simp⟩)) (fun k r hr _ b hb=>?_) (fun k r hm'=>?_) (fun k k' r r' b hm' hr hb hb'=>?_)
  (fun b hb=>by have:=h.okb b hb;simp;omega) (fun b hb => .inl hb) (h.frame.alloc _)⟩
 ·have:=h.sep k r b hr hb;exact ⟨⟨this.1,by simp;omega⟩,.inl (heap_alloc_old w _ b this.2.1)⟩
 ·simp at hm';obtain ⟨rfl,rfl⟩:=hm';refine ⟨.inr (by simp),⟨rfl,_,cap,aJ _ _ _,hcap,hm,hsz,hw,fun _=>⟨w.heap.size,0,cur,T,rfl,heap_alloc_new w _,by omega,fun i x j c h1 h2=>?_⟩⟩,fun b hb=>?_⟩
  ·obtain ⟨u,e1,e2,e3⟩:=hx i x j c h1 h2;exact ⟨u,by rw [Nat.zero_add];exact e1,e2.mono hk (fun _ h=>h),e3⟩
  ·have hb:=hb.arr;rw [aJ] at hb;have:=hblk b hb;subst this;exact ⟨fun hc=>by have:=h.okb _ hc;omega,by simp,fun hc=>by omega⟩
 ·simp at hm';obtain ⟨rfl,rfl⟩:=hm';have hb:=hb.arr;rw [aJ] at hb;have:=hblk b hb;subst this;rcases dY s.hp [((id,0),some (Res.arr sz xs))] k' with ⟨e,hno⟩ | ⟨r0,hm'',e⟩
  ·have hr':s.hp k'=some r':=e.symm.trans hr;have:=(h.sep k' r' _ hr' (h.uZ hβ _ hr' hb')).2.1;omega
  ·simp at hm'';rw [hm''.1]
theorem OJ {i i' sz j off n:Nat} (hj:j<sz) (hn:off+n≤sz) (hne:i'≠i):i'*sz+j<i*sz+off∨i*sz+off+n≤i'*sz+j:=by
 rcases Nat.lt_or_ge i' i with h | h
 ·have:=Nat.mul_le_mul_right sz (show i'+1≤i by omega);rw [Nat.succ_mul] at this;omega
 ·have:=Nat.mul_le_mul_right sz (show i+1≤i' by omega);rw [Nat.succ_mul] at this;omega
theorem uQ {i n sz off m:Nat} (hi:i<n) (hm:off+m≤sz):i*sz+off+m≤n*sz:=by
 have:=Nat.mul_le_mul_right sz (show i+1≤n by omega);rw [Nat.succ_mul] at this;omega
theorem RelB.TU (h:RelB C β ok s a w) {dst:Option Tmp} (hd:∀ d,dst=some d→d<C.nt) {id sz i off:Nat} {xs:List D} (hr:s.hp (id,0)=some (.arr sz xs)) {x x':D} (hx:xs[i]?=some x)
  {vs:List Value} (hlen:off+vs.length≤sz) (hx':x'.cells.length=sz)
  (hin:∀ (j:Nat) v c,vs[j]?=some v→x'.cells[off+j]?=some c→RdD ok w v c∧v.oneCell'=true∧c.one=true)
  (hout:∀ j,j<sz→j<off∨off+vs.length≤j→x'.cells[j]?=x.cells[j]?) (vd:Value) :
  ∃ b o cur T n cap,β id = .slice (some ⟨b,o,none⟩) n cap∧w.heap[b]?=some (.cells cur T (0,0))∧o+(i*sz+off)+vs.length≤cur.size ∧
    RelB C β ok (s.apply dst .any [((id,0),some (.arr sz (xs.set i x')))] []) (a.put dst vd) (w.setRow b (patch cur (o+(i*sz+off)) vs)):=by
 obtain ⟨hu0,_,a0,cap,e1,e2,e3,e4,e5,e6⟩:=h.heap _ _ hr;have hi:i<xs.length:=(List.getElem?_eq_some_iff.1 hx).1;obtain ⟨b,o,cur,T,rfl,f1,f2,f3⟩:=e6 (by omega);have hbl:aB (β id)=some b:=by rw [show β id=_ from e1];cases cap with
  | zero=>omega
  | succ n=>rfl
 have hsep:=h.sep _ _ b hr (.inl hbl);have hk:Keeps ok w (w.setRow b (patch cur (o+(i*sz+off)) vs)):=yw hsep.1;have hfit:o+(i*sz+off)+vs.length≤cur.size:=by have:=uQ (sz:=sz) (off:=off) (m:=vs.length) (show i<cap by omega) hlen;omega
 have hnewrow:=setRow_heap w b cur (patch cur (o+(i*sz+off)) vs) T (0,0) f1
 refine ⟨b,o,cur,T,_,cap,e1,f1,hfit,h.step hd (fun _ _=>rfl) (fun _ h=>h) hk (.any _) (fun k r hr' hno b' hb'=>?_) (fun k r hm=>?_) (fun k k' r r' b' hm hr' hb hb'=>?_)
  (fun b hb=>by rw [size_setRow];exact h.okb b hb) (fun b hb => .inl hb) (kY h.frame f1 (fC hfit) (fun hb0 o' ho=>?_) (fun hb0=>⟨0,?_⟩))⟩
 ·have hs:=h.sep k r b' hr' hb';refine ⟨⟨hs.1,by rw [size_setRow];exact hs.2.1⟩,.inl (setRow_other w b b' _ (fun e=>?_))⟩;subst e;exact h.other hr hbl hr' (fun e=>hno (some (.arr sz (xs.set i x'))) (by simp [e])) hb'
 ·simp at hm;obtain ⟨rfl,rfl⟩:=hm;refine ⟨.inl hu0,⟨rfl,_,cap,by simp only [List.length_set];exact e1,by simpa using e2,e3,e4,fun i' y hy=>?_,fun hc=>⟨b,o,_,T,rfl,hnewrow,by rw [fC hfit];exact f2,fun i' y j c hy hc=>?_⟩⟩,fun b' hb'=>?_⟩
  ·by_cases e:i=i'
   ·subst e;rw [List.getElem?_set_self hi] at hy;cases hy;exact hx'
   ·rw [List.getElem?_set_ne e] at hy;exact e5 i' y hy
  ·have hj:j<sz:=by
    have hw:y.cells.length=sz:=by
     by_cases e:i=i'
     ·subst e;rw [List.getElem?_set_self hi] at hy;cases hy;exact hx'
     ·rw [List.getElem?_set_ne e] at hy;exact e5 i' y hy
    rw [← hw];exact (List.getElem?_eq_some_iff.1 hc).1
   by_cases e:i=i'
   ·subst e;rw [List.getElem?_set_self hi] at hy;cases hy;by_cases hjr:off≤j∧j<off+vs.length
    ·have hv:vs[j-off]?=some vs[j-off]:=(by simp);have hc':x'.cells[off+(j-off)]?=some c:=(by rw [show off+(j-off)=j by omega];exact hc);obtain ⟨g1,g2⟩:=hin _ _ c hv hc';refine ⟨vs[j-off],?_,g1.mono hk (fun _ h=>h),g2⟩;rw [show o+(i*sz+j)=o+(i*sz+off)+(j-off) by omega,pz hfit (by omega)];exact hv
    ·have hc':x.cells[j]?=some c:=(by rw [← hout j hj (by omega)];exact hc);obtain ⟨u,g1,g2,g3⟩:=f3 i x j c hx hc';exact ⟨u,by rw [jg hfit (by omega)];exact g1,g2.mono hk (fun _ h=>h),g3⟩
   ·rw [List.getElem?_set_ne e] at hy;obtain ⟨u,g1,g2,g3⟩:=f3 i' y j c hy hc;refine ⟨u,?_,g2.mono hk (fun _ h=>h),g3⟩;rw [jg hfit]
    ·exact g1
    ·have:=OJ (i:=i) (i':=i') hj hlen (Ne.symm e);omega
  ·have hb':=hb'.arr;simp only [hbl,Option.some.injEq] at hb';subst hb';exact ⟨hsep.1,by rw [size_setRow];exact hsep.2.1,hsep.2.2⟩
 ·simp at hm;obtain ⟨rfl,rfl⟩:=hm;have hb:=hb.arr;simp only [hbl,Option.some.injEq] at hb;subst hb;rcases dY s.hp [((id,0),some (Res.arr sz (xs.set i x')))] k' with ⟨e,hno⟩ | ⟨r0,hm',e⟩
  ·have h2:s.hp k'=some r':=e.symm.trans hr';exact (h.inj k' (id,0) r' _ b h2 hr (h.Ye hr hbl _ h2 hb') (.inl hbl)).symm
  ·simp at hm';rw [hm'.1]
 ·exact absurd (hsep.2.2 hb0 o') ho
 ·exact hsep.2.2 hb0 0
end
def Src (ok:Nat→Prop) (w:World) (v:Value) (sz:Nat) (ys:List D):Prop:=
 ∃ a cap,v = .slice a ys.length cap∧(∀ (i:Nat) x,ys[i]?=some x→x.cells.length=sz) ∧
   (0<ys.length→∃ b o,a=some ⟨b,o,none⟩ ∧
    ∀ (i:Nat) x (j:Nat) c,ys[i]?=some x→x.cells[j]?=some c→∃ u,w.cell? ⟨b,o+(i*sz+j),none⟩=some u∧RdD ok w u c∧u.oneCell'=true∧c.one=true)
theorem Src.Xc {ok:Nat→Prop} {w:World} {v:Value} {sz:Nat} {ys:List D} (h:RdD ok w v (.list ys)) (hs:∀ (i:Nat) x,ys[i]?=some x→x.cells.length=sz):Src ok w v sz ys:=by
 cases h with
 | lC a=>exact ⟨a,0,rfl,hs,fun h=>by simp at h⟩
 | lst a cap sz' xs us h1 h2 h3 h4 h5 h6 h7 h8=>
   obtain ⟨b,o,sp⟩:=a;simp only at h2;subst h2;refine ⟨_,cap,rfl,hs,fun hp=>⟨b,o,rfl,fun i x j c hx hc=>?_⟩⟩;have e:sz'=sz:=(by rw [← h6 i x hx,hs i x hx]);subst e;obtain ⟨g1,g2⟩:=h7 i x j c hx hc;exact ⟨_,g1,h8 i x j c hx hc,g2⟩
theorem Src.Du {ok:Nat→Prop} {w:World} {β:Nat→Value} {u:Nat→Prop} {v:Value} {id sz off len:Nat} {xs:List D} (hv:RdV β u ok w v (.sl id sz off len)) (ho:bT ok w (β id) sz xs) (hl:off+len≤xs.length) :
  Src ok w v sz ((xs.drop off).take len):=by
 cases hv with
 | sl _ _ _ _ n cap a0 a h1 h2 h3 h3' h4=>
   obtain ⟨a1,cap1,g0,g1,g2,g3,g4,g5⟩:=ho;rw [h2] at g0;simp at g0;obtain ⟨rfl,rfl,rfl⟩:=g0;have hlen:((xs.drop off).take len).length=len:=(by simp;omega);have hget:∀ (i:Nat) x,((xs.drop off).take len)[i]?=some x→xs[off+i]?=some x∧i<len:=fun i x hx=>by
    have hi:i<len:=(by rw [← hlen];exact (List.getElem?_eq_some_iff.1 hx).1);rw [List.getElem?_take_of_lt hi,List.getElem?_drop] at hx;exact ⟨hx,hi⟩
   refine ⟨a,cap-off,by rw [hlen],fun i x hx=>g4 _ x (hget i x hx).1,fun hp=>?_⟩;have hp':0<len:=(by rw [← hlen];exact hp);obtain ⟨b,o,e1,e2⟩:=h4 (by omega);obtain ⟨b',o',cur,T,e3,e4,e5,e6⟩:=g5 (by omega);rw [e1] at e3;simp at e3;obtain ⟨rfl,rfl⟩:=e3;refine ⟨b,o+off*sz,e2,fun i x j c hx hc=>?_⟩;obtain ⟨u',f1,f2⟩:=e6 (off+i) x j c (hget i x hx).1 hc;refine ⟨u',?_,f2⟩;rw [cell_of_row w b _ cur T (0,0) e4,← f1];congr 1;rw [Nat.add_mul];omega
theorem Src.news {ok:Nat→Prop} {w:World} {v:Value} {sz:Nat} {ys:List D} (hsz:0<sz) (h:Src ok w v sz ys) :
  ∃ (a:Option Addr) (cap:Nat) (news:List Value),v = .slice a ys.length cap∧news.length=ys.length*sz∧(∀ u∈news,Value.oneCell' u=true)∧(0<ys.length→∃ ad,a=some ad∧∀ j u,news[j]?=some u→w.cell? (ad.add j)=some u) ∧
    (∀ (i:Nat) x (j:Nat) c,ys[i]?=some x→x.cells[j]?=some c→∃ u,news[i*sz+j]?=some u∧RdD ok w u c∧u.oneCell'=true∧c.one=true):=by
 obtain ⟨a,cap,rfl,h1,h2⟩:=h;rcases Nat.eq_zero_or_pos ys.length with h0 | h0
 ·have:ys=[]:=List.length_eq_zero_iff.1 h0;subst this;exact ⟨a,cap,[],rfl,by simp,by simp,fun h=>by simp at h,fun i x j c hx=>by simp at hx⟩
 ·obtain ⟨b,o,rfl,h3⟩:=h2 h0;have key:∀ q,q<ys.length*sz→∃ u c,w.cell? ⟨b,o+q,none⟩=some u∧u.oneCell'=true∧(ys[q / sz]?).bind (fun x=>x.cells[q % sz]?)=some c:=fun q hq=>by
   have hi:q / sz<ys.length:=(Nat.div_lt_iff_lt_mul hsz).2 hq;have hx:ys[q / sz]?=some ys[q / sz]:=(by simp [hi]);have hj:q % sz<(ys[q / sz]).cells.length:=(by rw [h1 _ _ hx];exact Nat.mod_lt _ hsz);have hc:(ys[q / sz]).cells[q % sz]?=some ((ys[q / sz]).cells[q % sz]):=(by simp);obtain ⟨u,f1,f2,f3,f4⟩:=h3 _ _ _ _ hx hc;have e:q / sz*sz+q % sz=q:=(by rw [Nat.mul_comm];exact Nat.div_add_mod q sz);rw [e] at f1;exact ⟨u,_,f1,f3,by rw [hx];exact hc⟩
  refine ⟨_,cap,(List.range (ys.length*sz)).map fun q=>(w.cell? ⟨b,o+q,none⟩).getD undef,rfl,by simp,fun u hu=>?_,fun _=>⟨_,rfl,fun j u hu=>?_⟩,fun i x j c hx hc=>?_⟩
  ·simp at hu;obtain ⟨q,hq,rfl⟩:=hu;obtain ⟨u,c,f1,f2,_⟩:=key q hq;rw [f1];exact f2
  ·simp only [List.getElem?_map,Option.map_eq_some_iff] at hu;obtain ⟨q,hq,rfl⟩:=hu;have hqlt:j<ys.length*sz:=(by have:=(List.getElem?_eq_some_iff.1 hq).1;simpa using this);have:q=j:=(by have:=(List.getElem?_eq_some_iff.1 hq).2;simp at this;exact this.symm);subst this;obtain ⟨u,c,f1,_⟩:=key q hqlt;rw [Addr.add_lit,f1];rfl
  ·have hi:i<ys.length:=(List.getElem?_eq_some_iff.1 hx).1;have hj:j<sz:=(by rw [← h1 _ _ hx];exact (List.getElem?_eq_some_iff.1 hc).1);have hq:i*sz+j<ys.length*sz:=(by have:=uQ (off:=j) (m:=1) (sz:=sz) hi (by omega);omega);obtain ⟨u,f1,f2⟩:=h3 i x j c hx hc;exact ⟨u,by simp [hq,f1],f2⟩
section
variable {P:Program}
theorem rG (w:World) (t ty e:TypeId) (i:TypeInfo) (z:Value) (ht:P.underlying t=some (.slice e)) (hi:P.info? e=some i) (hz:i.zero=some z) (hzs:z.cells.size=i.size)
  (a0:Option Addr) (n cap:Nat) (hn:n≤cap) (b o:Nat) (cur:Array Value) (T:TypeId)
  (hb:0<cap→a0=some ⟨b,o,none⟩∧w.heap[b]?=some (.cells cur T (0,0))∧o+cap*i.size≤cur.size)
  (m cx:Nat) (ax:Option Addr) (news:List Value) (hl:news.length=m*i.size) (h1:∀ u∈news,u.oneCell'=true)
  (hx:0<m→∃ ad,ax=some ad∧∀ j u,news[j]?=some u→w.cell? (ad.add j)=some u) (h63:n+m≤maxLen) (hbytes:(n+m)*i.bytes≤140737488355328) :
  (n+m≤cap∧(Builtin.append_ #[t,t] ty #[.slice a0 n cap,.slice ax m cx]).run P w = .ok (.slice a0 (n+m) cap) (if 0<m then w.setRow b (patch cur (o+n*i.size) news) else w)) ∨
  (cap<n+m∧∃ cap' rest,n+m≤cap'∧cap'≤maxLen∧(n+m)*i.size+rest.size=cap'*i.size ∧
   (Builtin.append_ #[t,t] ty #[.slice a0 n cap,.slice ax m cx]).run P w =
    .ok (.slice (some ⟨w.heap.size,0,none⟩) (n+m) cap') (w.drew.alloc (.cells (((List.range (n*i.size)).map fun q=>(cur[o+q]?).getD undef).toArray++news.toArray++rest) e))):=by
 by_cases hroom:n+m≤cap
 ·left;refine ⟨hroom,?_⟩;rcases Nat.eq_zero_or_pos m with hm | hm
  ·subst hm;have hnews:news=[]:=List.eq_nil_of_length_eq_zero (by simpa using hl);subst hnews;simp only [Nat.lt_irrefl,if_false];cases ax with
   | none=>cases a0<;>simp [Builtin.append_,run_underlying ht,Go.sizeOf,typeInfo,hi,Builtin.lenOf,hn,Builtin.firstCells,Go.storeCells]
   | some ax=>
     have hf:=run_firstCells_some (P:=P) w i.size 0 ax 0 cx [] (by simp) (by simp);cases a0<;>simp [Builtin.append_,run_underlying ht,Go.sizeOf,typeInfo,hi,Builtin.lenOf,hn,hf,Go.storeCells]
  ·obtain ⟨ad,rfl,hcell⟩:=hx hm;obtain ⟨rfl,hh,hs⟩:=hb (by omega);have hf:=run_firstCells_some (P:=P) w i.size m ad m cx news hl hcell;have hfit:o+n*i.size+0+news.length≤cur.size:=by
    have:=Nat.mul_le_mul_right i.size hroom;rw [Nat.add_mul] at this;omega
   have hst:=run_storeCells_at P b (o+n*i.size) T news 0 cur w hh hfit h1;simp only [Nat.add_zero] at hst;simp [Builtin.append_,run_underlying ht,Go.sizeOf,typeInfo,hi,Builtin.lenOf,hroom,hf,Addr.add_lit,hst,hm,patch]
 ·right;have hm:0<m:=by omega
  obtain ⟨ad,rfl,hcell⟩:=hx hm;have hge:=grownCap_ge w (n+m) cap e;have hcm:grownCap w (n+m) cap e≤maxLen:=grownCap_le_maxLen w (n+m) cap e h63;have hsmall:n+m≤9223372036854775807:=by simp only [maxLen] at h63;omega
  refine ⟨by omega,grownCap w (n+m) cap e,Builtin.zeroCells z.cells (grownCap w (n+m) cap e-(n+m)),hge,hcm,?_,?_⟩
  ·rw [size_zeroCells,hzs,← Nat.add_mul];congr 1;omega
  ·rcases Nat.eq_zero_or_pos cap with hc | hc
   ·subst hc;have hn0:n=0:=(by omega);subst hn0;simp only [Nat.zero_add,Nat.zero_mul,List.range_zero,List.map_nil,Array.empty_append];cases a0 with
    | none=>
      have:=run_append_nil (P:=P) w t ty e i z ht hi hz ad m cx news hl hcell hm (by omega) (by rw [Nat.zero_add] at hbytes;omega)
      simpa using this
    | some a0=>
      have:=run_append_grow (P:=P) w t ty e i z ht hi hz a0 0 0 [] (by simp) (by simp) ad m cx news hl hcell (by omega) (by omega) (growslice_fits (by omega) hbytes)
      simpa using this
   ·obtain ⟨rfl,hh,hs⟩:=hb hc;have holds:∀ j v,((List.range (n*i.size)).map fun q=>(cur[o+q]?).getD undef)[j]?=some v→w.cell? ((⟨b,o,none⟩:Addr).add j)=some v:=fun j v hv=>by
     simp only [List.getElem?_map,Option.map_eq_some_iff] at hv;obtain ⟨q,hq,rfl⟩:=hv;have hqlt:j<n*i.size:=(by have:=(List.getElem?_eq_some_iff.1 hq).1;simpa using this);have:q=j:=(by have:=(List.getElem?_eq_some_iff.1 hq).2;simp at this;exact this.symm);subst this;have:=Nat.mul_le_mul_right i.size hn;have hlt:o+q<cur.size:=(by omega);rw [Addr.add_lit,cell_of_row w b _ cur T (0,0) hh];simp [hlt]
    exact run_append_grow (P:=P) w t ty e i z ht hi hz ⟨b,o,none⟩ n cap _ (by simp) holds ad m cx news hl hcell (by omega) (by omega) (growslice_fits (by omega) hbytes)
end
theorem bT.sub {ok:Nat→Prop} {w:World} {β:Nat→Value} {u:Nat→Prop} {v:Value} {id sz off len:Nat} {xs:List D} (hv:RdV β u ok w v (.sl id sz off len)) (ho:bT ok w (β id) sz xs) (hl:off+len≤xs.length) :
  bT ok w v sz ((xs.drop off).take len)∧∀ b,aB v=some b→aB (β id)=some b:=by
 cases hv with
 | sl _ _ _ _ n cap a0 a h1 h2 h3 h3' h4=>
   obtain ⟨a1,cap1,g0,g1,g2,g3,g4,g5⟩:=ho;rw [h2] at g0;simp at g0;obtain ⟨rfl,rfl,rfl⟩:=g0;have hlen:((xs.drop off).take len).length=len:=(by simp;omega);have hget:∀ (i:Nat) x,((xs.drop off).take len)[i]?=some x→xs[off+i]?=some x∧i<len:=fun i x hx=>by
    have hi:i<len:=(by rw [← hlen];exact (List.getElem?_eq_some_iff.1 hx).1);rw [List.getElem?_take_of_lt hi,List.getElem?_drop] at hx;exact ⟨hx,hi⟩
   refine ⟨⟨a,cap-off,by rw [hlen],by rw [hlen];omega,by omega,g3,fun i x hx=>g4 _ x (hget i x hx).1,fun hc=>?_⟩,fun b hb=>?_⟩
   ·obtain ⟨b,o,e1,e2⟩:=h4 (by omega);obtain ⟨b',o',cur,T,e3,e4,e5,e6⟩:=g5 (by omega);rw [e1] at e3;simp at e3;obtain ⟨rfl,rfl⟩:=e3;refine ⟨b,o+off*sz,cur,T,e2,e4,?_,fun i x j c hx hc=>?_⟩
    ·have:=Nat.add_mul off (cap-off) sz;rw [show off+(cap-off)=cap by omega] at this;omega
    ·obtain ⟨u',f1,f2⟩:=e6 (off+i) x j c (hget i x hx).1 hc;refine ⟨u',?_,f2⟩;rw [← f1];congr 1;rw [Nat.add_mul];omega
   ·rcases Nat.lt_or_ge off cap with hlt | hge
    ·obtain ⟨b',o,e1,e2⟩:=h4 hlt;rw [e2] at hb;rw [h2,e1];obtain ⟨c',hc'⟩:∃ c',cap-off=c'+1:=⟨cap-off-1,by omega⟩
     obtain ⟨c'',hc''⟩:∃ c'',cap=c''+1:=⟨cap-1,by omega⟩
     rw [hc'] at hb;rw [hc''];exact hb
    ·rw [show cap-off=0 by omega] at hb;cases a<;>simp [aB] at hb
def pX:Option Nat→List (Key×Option Res)
 | some id=>[((id,0),none)]
 | none=>[]
theorem lJ {rm:Option Nat} {k:Key} {r:Option Res} (h:(k,r)∈pX rm):∃ id,rm=some id∧k=(id,0)∧r=none:=by
 cases rm with
 | none=>cases h
 | some id=>simp [pX] at h;exact ⟨id,rfl,h.1,h.2⟩
section
variable {P:Program} {T:Nat→TE} {C:Ctx} {β:Nat→Value} {ok:Nat→Prop} {s:S} {a:Act} {w:World}
theorem RelB.append (h:RelB C β ok s a w) (hT:TOK P T) {dst:Option Tmp} (hd:∀ d,dst=some d→d<C.nt) {t e ty:Nat} (hk:(T t).k = .slc e) (he:(T e).k ≠ .none) {v vx:Value} {ds ys:List D}
  (hv:bT ok w v (T e).size ds) (hx:Src ok w vx (T e).size ys) {rm:Option Nat}
  (hrm:∀ b,aB v=some b→∃ id xs,rm=some id∧s.hp (id,0)=some (.arr (T e).size xs)∧aB (β id)=some b)
  {m:Nat} (hm:¬ s.used m) (h63:ds.length+ys.length≤maxLen) (hbytes:(ds.length+ys.length)*(T e).bytes≤140737488355328) :
  ∃ β' v' w',(Builtin.append_ #[t,t] ty #[v,vx]).run P w = .ok v' w' ∧
    RelB C β' ok (s.apply dst (.sl m (T e).size 0 (ds.length+ys.length)) (((m,0),some (.arr (T e).size (ds++ys)))::pX rm) [m]) (a.put dst v') w':=by
 obtain ⟨de,ie,hfe⟩:=hT.facts he;have hu:=hT.slc hk;obtain ⟨a0,cap,rfl,h1,h2,hsz,hwd,hcells⟩:=hv;obtain ⟨ax,cx,news,rfl,hnl,hn1,hnx,hnr⟩:=hx.news hsz;have hsize:=h.size_le;have hmne:∀ id xs,s.hp (id,0)=some (.arr (T e).size xs)→id≠m:=fun id xs hr e=>hm (e ▸ (h.heap _ _ hr).1)
 have finish:∀ (v':Value) (w':World) (newb:Option Nat),v' = .slice (match newb with | some _=>some ⟨w.heap.size,0,none⟩ | none=>a0) (ds.length+ys.length) (match newb with | some c=>c | none=>cap) →
   (∀ k,k<w.heap.size→(∀ b,aB (.slice a0 ds.length cap)=some b→k≠b)→w'.heap[k]?=w.heap[k]?)→w.heap.size≤w'.heap.size →
   (∀ c,newb=some c→w.heap.size<w'.heap.size)→Frame C.wr C.w0 w' →
   (∀ ok':Nat→Prop,Keeps ok w w'→bT ok w' v' (T e).size (ds++ys)) →
   RelB C (ghost β m v') ok (s.apply dst (.sl m (T e).size 0 (ds.length+ys.length)) (((m,0),some (.arr (T e).size (ds++ys)))::pX rm) [m]) (a.put dst v') w':=by
  intro v' w' newb hv' hheap hle hlt hfr hown;have hβ:=lK (β:=β) (v:=v') hm;have hrmb:∀ b,aB (.slice a0 ds.length cap)=some b→¬ ok b∧b<w.heap.size∧(b<C.w0.heap.size→∀ o,C.wr b o):=fun b hb=>by
   obtain ⟨id,xs,e1,e2,e3⟩:=hrm b hb;exact h.sep _ _ b e2 (.inl e3)
  have hk':Keeps ok w w':=fun b hb=>hheap b (h.okb b hb) (fun b' hb' e=>(hrmb b' hb').1 (e ▸ hb))
  have hblk':∀ b,aB v'=some b→(∃ c,newb=some c∧b=w.heap.size)∨aB (.slice a0 ds.length cap)=some b:=fun b hb=>by
   rw [hv'] at hb;cases newb with
   | some c=>left;refine ⟨c,rfl,?_⟩;cases c<;>simp [aB] at hb;exact hb.symm
   | none=>
     right;simp only at hb;cases cap with
     | zero=>cases a0<;>simp [aB] at hb
     | succ c=>cases a0<;>simp [aB] at hb ⊢;exact hb
  have hsl:RdV (ghost β m v') (fun i=>s.used i∨i∈[m]) ok w' v' (.sl m (T e).size 0 (ds.length+ys.length)):=by
   obtain ⟨a',cap',f1,f2,f3,f4,f5,f6⟩:=hown ok hk';have hlen:(ds++ys).length=ds.length+ys.length:=(by simp);rw [hlen] at f1 f2;have:=RdV.sl (β:=ghost β m v') (u:=fun i=>s.used i∨i∈[m]) (ok:=ok) (w:=w') m (T e).size 0 (ds.length+ys.length) (ds.length+ys.length) cap' a' a' (.inr (by simp)) (by rw [aJ];exact f1) (by omega) f3
    (fun hc=>by obtain ⟨b,o,cur,T',g1,_⟩:=f6 hc;exact ⟨b,o,g1,by simpa using g1⟩)
   rw [Nat.sub_zero,← f1] at this;exact this
  refine h.step hd hβ (fun _ h=>h) hk' hsl (fun k r hr hno b hb=>?_) (fun k r hmm=>?_) (fun k k' r r' b hmm hr hb hb'=>?_) (fun b hb=>Nat.lt_of_lt_of_le (h.okb b hb) hle) (fun b hb => .inl hb) hfr
  ·have hs:=h.sep k r b hr hb;refine ⟨⟨hs.1,Nat.lt_of_lt_of_le hs.2.1 hle⟩,.inl (hheap b hs.2.1 (fun b' hb' e'=>?_))⟩;subst e';obtain ⟨id,xs,e1,e2,e3⟩:=hrm b hb';refine h.other e2 e3 hr (fun e'=>hno none ?_) hb;rw [e',e1];simp [pX]
  ·rcases List.mem_cons.1 hmm with hmm | hmm
   ·simp only [Prod.mk.injEq,Option.some.injEq] at hmm;obtain ⟨rfl,rfl⟩:=hmm;refine ⟨.inr (by simp),⟨rfl,by rw [aJ];exact hown ok hk'⟩,fun b hb=>?_⟩;have hb:=hb.arr;rw [aJ] at hb;rcases hblk' b hb with ⟨c,hc,rfl⟩ | hb'
    ·exact ⟨fun ho=>by have:=h.okb _ ho;omega,hlt c hc,fun hc=>by omega⟩
    ·have:=hrmb b hb';exact ⟨this.1,Nat.lt_of_lt_of_le this.2.1 hle,this.2.2⟩
   ·obtain ⟨id,_,_,e3⟩:=lJ hmm;cases e3
  ·rcases List.mem_cons.1 hmm with hmm | hmm
   ·simp only [Prod.mk.injEq,Option.some.injEq] at hmm;obtain ⟨rfl,rfl⟩:=hmm;have hb:=hb.arr;rw [aJ] at hb;rcases dY s.hp (((m,0),some (Res.arr (T e).size (ds++ys)))::pX rm) k' with ⟨e',hno⟩ | ⟨r0,hm',e'⟩
    ·have hr':s.hp k'=some r':=e'.symm.trans hr;have hused:=(h.heap k' r' hr').1
     have hb':Blk β w k' r' b:=Blk.mono (hβ k'.1 hused) (fun c hc=>hheap c (h.sep k' r' c hr' hc).2.1 (fun b' hb'' e''=>by
      subst e'';obtain ⟨id,xs,e1,e2,e3⟩:=hrm c hb'';refine h.other e2 e3 hr' (fun e4=>hno none ?_) hc
      rw [e4,e1];simp [pX])) hb'
     exfalso;rcases hblk' b hb with ⟨c,hc,rfl⟩ | hb2
     ·have:=(h.sep k' r' _ hr' hb').2.1;omega
     ·obtain ⟨id,xs,e1,e2,e3⟩:=hrm b hb2;refine h.other e2 e3 hr' (fun e''=>hno none ?_) hb';rw [e'',e1];simp [pX]
    ·rcases List.mem_cons.1 hm' with hm' | hm'
     ·simp only [Prod.mk.injEq] at hm';rw [hm'.1]
     ·obtain ⟨id,_,_,e3⟩:=lJ hm';rw [e3] at e';rw [e'] at hr;cases hr
   ·obtain ⟨id,_,_,e3⟩:=lJ hmm;cases e3
 have hwidth:∀ (i:Nat) x,(ds++ys)[i]?=some x→x.cells.length=(T e).size:=fun i x hx'=>by
  rcases Nat.lt_or_ge i ds.length with hi | hi
  ·rw [List.getElem?_append_left hi] at hx';exact hwd i x hx'
  ·rw [List.getElem?_append_right hi] at hx';obtain ⟨a2,c2,g1,g2,_⟩:=hx;simp at g1;exact g2 _ x hx'
 have hn1':∀ u∈news,u.oneCell'=true:=hn1;rw [← hfe.bytes] at hbytes;rcases Nat.eq_zero_or_pos cap with hc0 | hc0
 ·
  subst hc0;have hds0:ds=[]:=List.length_eq_zero_iff.1 (by omega);subst hds0;have hnb:∀ b,aB (.slice a0 0 0)≠some b:=fun b hb=>by cases a0<;>simp [aB] at hb
  rcases rG (P:=P) w t ty e ie (T e).zero hu hfe.info hfe.zero (by rw [hfe.J9,hfe.size]) a0 0 0 (by omega) 0 0 #[] 0 (fun hc=>by omega) ys.length cx ax news (by rw [hfe.size];exact hnl) hn1' hnx (by simpa using h63) (by simpa using hbytes) with ⟨g1,g2⟩ | ⟨g1,cap',rest,g2,g3,g4,g5⟩
  ·have hy0:ys.length=0:=(by omega);have hys:ys=[]:=List.length_eq_zero_iff.1 hy0;subst hys;simp only [List.length_nil,Nat.lt_irrefl,if_false] at g2;refine ⟨_,_,_,g2,finish _ _ none rfl (fun k _ _=>rfl) (Nat.le_refl _) (fun c hc=>by cases hc) h.frame (fun ok' hk'=>⟨a0,0,rfl,by simp,by simp [maxLen],hsz,hwidth,fun hc=>by omega⟩)⟩
  ·simp only [Nat.zero_add,Nat.zero_mul,List.range_zero,List.map_nil,Array.empty_append] at g5 g4
   refine ⟨_,_,_,g5,finish _ _ (some cap') (by simp) (fun k hk _=>by rw [heap_alloc_old _ _ k (by simpa using hk)];rfl) (by simp) (fun c hc=>by simp) ((⟨h.frame.os,h.frame.tape,h.frame.output,h.frame.size,h.frame.blk,h.frame.cel⟩:Frame C.wr C.w0 w.drew).alloc _)
    (fun ok' hk'=>⟨_,cap',by simp,by simpa using g2,g3,hsz,hwidth,fun _=>⟨w.heap.size,0,_,e,rfl,heap_alloc_new w.drew _,?_,fun i x j c hx' hc=>?_⟩⟩)⟩
   ·simp only [Array.size_append,List.size_toArray,hnl,← hfe.size];rw [g4];omega
   ·simp only [List.nil_append] at hx';obtain ⟨u,f1,f2,f3⟩:=hnr i x j c hx' hc;refine ⟨u,?_,f2.mono hk' (fun _ h=>h),f3⟩;rw [Nat.zero_add,Array.getElem?_append_left (by have:=(List.getElem?_eq_some_iff.1 f1).1;simpa using this)]
    simpa using f1
 ·obtain ⟨b,o,cur,Tb,rfl,hh,hs,hold⟩:=hcells hc0;have hblk:aB (.slice (some ⟨b,o,none⟩) ds.length cap)=some b:=by cases cap with
   | zero=>omega
   | succ n=>rfl
  have hdl:∀ i,i<ds.length→i*(T e).size+(T e).size≤ds.length*(T e).size:=fun i hi=>by
   have:=uQ (off:=0) (m:=(T e).size) (sz:=(T e).size) hi (by omega);omega
  rcases rG (P:=P) w t ty e ie (T e).zero hu hfe.info hfe.zero (by rw [hfe.J9,hfe.size]) (some ⟨b,o,none⟩) ds.length cap h1 b o cur Tb (fun _=>⟨rfl,hh,by rw [hfe.size];exact hs⟩) ys.length cx ax news (by rw [hfe.size];exact hnl) hn1' hnx h63 hbytes with ⟨g1,g2⟩ | ⟨g1,cap',rest,g2,g3,g4,g5⟩
  ·obtain ⟨id,xs,e1,e2,e3⟩:=hrm b hblk;have hsep:=h.sep _ _ b e2 (.inl e3);rw [hfe.size] at g2;have hcapm:(ds.length+ys.length)*(T e).size≤cap*(T e).size:=Nat.mul_le_mul_right _ g1;rw [Nat.add_mul] at hcapm;have hfit:o+ds.length*(T e).size+news.length≤cur.size:=(by rw [hnl];omega);have same:w.setRow b (patch cur (o+ds.length*(T e).size) news)=if 0<ys.length then w.setRow b (patch cur (o+ds.length*(T e).size) news) else w:=by
    split
    ·rfl
    ·have hy0:ys.length=0:=(by omega);have:news=[]:=List.eq_nil_of_length_eq_zero (by rw [hnl,hy0];simp);subst this;have:patch cur (o+ds.length*(T e).size) []=cur:=(by simp [patch]);rw [this];exact setRow_self w b cur Tb (0,0) hh
   rw [← same] at g2;have hnewrow:=setRow_heap w b cur (patch cur (o+ds.length*(T e).size) news) Tb (0,0) hh
   refine ⟨_,_,_,g2,finish _ _ none rfl (fun k _ hne=>setRow_other w b k _ (hne b hblk)) (by rw [size_setRow];exact Nat.le_refl _) (fun c hc=>by cases hc)
    (kY h.frame hh (fC hfit) (fun hb0 o' ho=>absurd (hsep.2.2 hb0 o') ho) (fun hb0=>⟨0,hsep.2.2 hb0 0⟩))
    (fun ok' hk'=>⟨_,cap,by simp,by simpa using g1,h2,hsz,hwidth,fun _=>⟨b,o,_,Tb,rfl,hnewrow,by rw [fC hfit];exact hs,fun i x j c hx' hc=>?_⟩⟩)⟩
   have hj:j<(T e).size:=(by rw [← hwidth i x hx'];exact (List.getElem?_eq_some_iff.1 hc).1);rcases Nat.lt_or_ge i ds.length with hi | hi
   ·rw [List.getElem?_append_left hi] at hx';obtain ⟨u,f1,f2,f3⟩:=hold i x j c hx' hc;refine ⟨u,?_,f2.mono hk' (fun _ h=>h),f3⟩;rw [jg hfit (.inl (by have:=hdl i hi;omega))];exact f1
   ·rw [List.getElem?_append_right hi] at hx';obtain ⟨u,f1,f2,f3⟩:=hnr _ x j c hx' hc;refine ⟨u,?_,f2.mono hk' (fun _ h=>h),f3⟩;have:i*(T e).size=ds.length*(T e).size+(i-ds.length)*(T e).size:=(by rw [← Nat.add_mul];congr 1;omega);rw [this,show o+(ds.length*(T e).size+(i-ds.length)*(T e).size+j)=o+ds.length*(T e).size+((i-ds.length)*(T e).size+j) by omega,pz hfit (List.getElem?_eq_some_iff.1 f1).1];exact f1
  ·rw [hfe.size] at g5 g4
   refine ⟨_,_,_,g5,finish _ _ (some cap') rfl (fun k hk _=>by rw [heap_alloc_old _ _ k (by simpa using hk)];rfl) (by simp) (fun c hc=>by simp) ((⟨h.frame.os,h.frame.tape,h.frame.output,h.frame.size,h.frame.blk,h.frame.cel⟩:Frame C.wr C.w0 w.drew).alloc _)
    (fun ok' hk'=>⟨_,cap',by simp,by simpa using g2,g3,hsz,hwidth,fun _=>⟨w.heap.size,0,_,e,rfl,heap_alloc_new w.drew _,?_,fun i x j c hx' hc=>?_⟩⟩)⟩
   ·simp only [Array.size_append,List.size_toArray,List.length_map,List.length_range,hnl];rw [Nat.add_mul] at g4;omega
   ·have hj:j<(T e).size:=(by rw [← hwidth i x hx'];exact (List.getElem?_eq_some_iff.1 hc).1);rw [Nat.zero_add];rcases Nat.lt_or_ge i ds.length with hi | hi
    ·rw [List.getElem?_append_left hi] at hx';obtain ⟨u,f1,f2,f3⟩:=hold i x j c hx' hc;refine ⟨u,?_,f2.mono hk' (fun _ h=>h),f3⟩;have:=hdl i hi;have hq:i*(T e).size+j<ds.length*(T e).size:=(by omega);rw [Array.getElem?_append_left (by simp;omega),Array.getElem?_append_left (by simp;omega)];simp [hq,f1]
    ·rw [List.getElem?_append_right hi] at hx';obtain ⟨u,f1,f2,f3⟩:=hnr _ x j c hx' hc;refine ⟨u,?_,f2.mono hk' (fun _ h=>h),f3⟩;have:i*(T e).size=ds.length*(T e).size+(i-ds.length)*(T e).size:=(by rw [← Nat.add_mul];congr 1;omega);have hlt:=(List.getElem?_eq_some_iff.1 f1).1;rw [this,Array.getElem?_append_left (by simp;omega),Array.getElem?_append_right (by simp;omega)];simp only [List.size_toArray,List.length_map,List.length_range,List.getElem?_toArray];rw [← f1];congr 1;omega
end
abbrev KK:=V→List (Key×Option Res)→List Key→List Nat→Prop
def aC (P:Program) (o:Oper) (vals:List V) (h:Key→Option Res) (x:V) (δ:List (Key×Option Res)) (rd:List Key) (news:List Nat):Prop:=
 ∀ (C:Ctx) (s:S) (a:Act) (w:World),Rel C s a w→o.op.operands.toList.map s.ev=vals→(∀ k∈rd,s.hp k=h k)→(∀ i∈news,¬ s.used i)→(∀ d,o.dst=some d→d<C.nt) →
   (∀ y∈o.op.operands.toList,okO y=true)→∀ (K:Act→World→Prop) (Q:Exit→Act→World→Prop),(∀ a' w',Rel C (s.apply o.dst x δ news) a' w'→K a' w')→o.wp P a w K Q
theorem aC.of_run {P:Program} {o:Oper} {vals:List V} {h:Key→Option Res} {x:V} {δ:List (Key×Option Res)} {rd:List Key} {news:List Nat}
  (H:∀ (C:Ctx) (β:Nat→Value) (ok:Nat→Prop) (s:S) (a:Act) (w:World),RelB C β ok s a w→o.op.operands.toList.map s.ev=vals→(∀ k∈rd,s.hp k=h k)→(∀ i∈news,¬ s.used i)→(∀ d,o.dst=some d→d<C.nt) →
   (∀ y∈o.op.operands.toList,okO y=true)→∃ v w',((execOp a.eval o).run P w = .ok (.value v) w'∨(execOp a.eval o).run P w = .ok .skip w'∧v=undef)∧Rel C (s.apply o.dst x δ news) (a.put o.dst v) w'):aC P o vals h x δ rd news:=by
 rintro C s a w ⟨β,ok,hr⟩ h1 h2 h3 h4 h5 K Q hK;obtain ⟨v,w',hrun,hrel⟩:=H C β ok s a w hr h1 h2 h3 h4 h5;unfold Oper.wp;rcases hrun with hrun | ⟨hrun,rfl⟩
 ·rw [hrun];exact hK _ _ hrel
 ·rw [hrun];exact hK _ _ hrel
theorem aC.bJ {P:Program} {o:Oper} {vals:List V} {h:Key→Option Res} {x:V} {rd:List Key}
  (H:∀ (β:Nat→Value) (u ok:Nat→Prop) (w:World) (ρ:Operand→Value) (e:Operand→V),(∀ y∈o.op.operands.toList,RdV β u ok w (ρ y) (e y))→o.op.operands.toList.map e=vals →
   (∀ k∈rd,∀ r,h k=some r→Own β u ok w k r) →
   ∃ v,(execOp ρ o).run P w = .ok (.value v) w∧RdV β u ok w v x):aC P o vals h x [] rd []:=by
 refine aC.of_run fun C β ok s a w hr h1 h2 h3 h4 h5=>?_
 obtain ⟨v,hv1,hv2⟩:=H β s.used ok w a.eval s.ev (fun y hy=>hr.eval y (h5 y hy)) h1 (fun k hk r hkr=>(hr.heap k r (by rw [h2 k hk];exact hkr)).2);exact ⟨v,w,.inl hv1,β,ok,hr.put h4 hv2⟩
theorem RdV.fB {β:Nat→Value} {u ok:Nat→Prop} {w:World} {v:Value} {x:D} (h:RdV β u ok w v (.d x)):RdD ok w v x:=by
 cases h;assumption
def vD1 (v:V) (K:D→Prop):Prop:=
 match v with
 | .d x=>K x
 | .aG=>K (.list [])
 | .emp=>K (.list [])
 | _=>False
def vDs (vs:List V) (K:List D→Prop):Prop:=
 match vs with
 | []=>K []
 | v::vs=>vD1 v fun d=>vDs vs fun ds=>K (d::ds)
def vD (v:V) (K:D→Prop):Prop:=
 match v with
 | .agg cs=>vDs cs fun ds=>K (.agg ds)
 | v=>vD1 v K
section
variable {P:Program} {T:Nat→TE}
def Pj (vals:List V) (K:KK):Prop:=
 match vals with
 | [c,x,y]=>Kz c fun b=>wH b (K x [] [] []) (K y [] [] [])
 | _=>False
theorem JL {o:Oper} {c x y:Operand} (ho:o.op = .pick c x y) {vals:List V} {h:Key→Option Res} {K:KK} (hK:Pj vals K) :
  ∃ x δ rd nw,K x δ rd nw∧aC P o vals h x δ rd nw:=by
 unfold Pj at hK;split at hK
 ·rename_i vc vx vy;obtain ⟨b,rfl,hK2⟩:=wE hK;rcases oW hK2 with ⟨rfl,hK3⟩ | ⟨rfl,hK3⟩
  all_goals
   refine ⟨_,_,_,_,hK3,aC.bJ fun β u ok w ρ e h1 h2 h3=>?_⟩;simp only [ho,Op.operands,List.map_cons,List.map_nil,List.cons.injEq,and_true] at h1 h2;obtain ⟨e1,e2,e3⟩:=h2;have hc:=h1 c (by simp);rw [e1] at hc;have hc':=hc.fB;generalize hvc:ρ c=vc at hc';cases hc'
  ·exact ⟨ρ x,by simp [execOp,ho,hvc,Go.asBool],by rw [← e2];exact h1 x (by simp)⟩
  ·exact ⟨ρ y,by simp [execOp,ho,hvc,Go.asBool],by rw [← e3];exact h1 y (by simp)⟩
 ·exact hK.elim
def JM (vals:List V) (K:KK):Prop:=
 match vals with
 | [x]=>K x [] [] []
 | _=>False
theorem yH {o:Oper} {x:Operand} (ho:o.op = .move x∨o.op = .assign x) {vals:List V} {h:Key→Option Res} {K:KK} (hK:JM vals K) :
  ∃ x δ rd nw,K x δ rd nw∧aC P o vals h x δ rd nw:=by
 unfold JM at hK;split at hK
 ·rename_i vx;refine ⟨_,_,_,_,hK,aC.bJ fun β u ok w ρ e h1 h2 h3=>?_⟩;rcases ho with ho | ho <;>
  ·simp only [ho,Op.operands,List.map_cons,List.map_nil,List.cons.injEq,and_true] at h1 h2;exact ⟨ρ x,by simp [execOp,ho],by rw [← h2];exact h1 x (by simp)⟩
 ·exact hK.elim
def zO (i:Nat) (vals:List V) (K:KK):Prop:=
 match vals with
 | [.tuple vs]=>match vs[i]? with
   | some v=>K v [] [] []
   | none=>False
 | _=>False
theorem BA {o:Oper} {x:Operand} {i:Nat} (ho:o.op = .extract x i) {vals:List V} {h:Key→Option Res} {K:KK} (hK:zO i vals K) :
  ∃ x δ rd nw,K x δ rd nw∧aC P o vals h x δ rd nw:=by
 unfold zO at hK;split at hK
 ·split at hK
  ·rename_i vs v hv;refine ⟨_,_,_,_,hK,aC.bJ fun β u ok w ρ e h1 h2 h3=>?_⟩;simp only [ho,Op.operands,List.map_cons,List.map_nil,List.cons.injEq,and_true] at h1 h2;have hx:=h1 x (by simp);rw [h2] at hx;generalize hvx:ρ x=vx at hx;cases hx with
   | tuple us cs g1 g2=>
     have hi:i<us.size:=(by rw [g1];exact (List.getElem?_eq_some_iff.1 hv).1);have hu:us[i]?=some us[i]:=(by simp [hi]);exact ⟨us[i],by simp [execOp,ho,hvx,Instr.extract,hi],g2 i _ v hu hv⟩
  ·exact hK.elim
 ·exact hK.elim
def wZ (vals:List V) (K:KK):Prop:=
 match vals with
 | [.d x]=>NC x fun cs off=>K (.d (.ref cs off)) [] [] []
 | [.ptr id off]=>K (.ptr id off) [] [] []
 | [.func (.func f) x y]=>K (.func (.func f) x y) [] [] []
 | _=>False
theorem zK {o:Oper} {x:Operand} (ho:o.op = .nilCheck x) {vals:List V} {h:Key→Option Res} {K:KK} (hK:wZ vals K) :
  ∃ x δ rd nw,K x δ rd nw∧aC P o vals h x δ rd nw:=by
 have key:∀ (vx:V),vals=[vx]→(∀ β u ok w v,RdV β u ok w v vx→(∃ a,v = .pointer (some a))∨∃ f x y,v = .func (.func f) x y)→K vx [] [] []→∃ x δ rd nw,K x δ rd nw∧aC P o vals h x δ rd nw:=by
  intro vx hv hsh hK;refine ⟨_,_,_,_,hK,aC.bJ fun β u ok w ρ e h1 h2 h3=>?_⟩;simp only [ho,Op.operands,List.map_cons,List.map_nil,hv,List.cons.injEq,and_true] at h1 h2;have hx:=h1 x (by simp);rw [h2] at hx;refine ⟨ρ x,?_,hx⟩;rcases hsh β u ok w _ hx with ⟨a,ha⟩ | ⟨f,y,z,hf⟩
  ·simp [execOp,ho,ha]
  ·simp [execOp,ho,hf]
 unfold wZ at hK;split at hK
 ·rename_i x;obtain ⟨cs,off,rfl,hK⟩:=mM hK;exact key _ rfl (fun β u ok w v hv => .inl (by cases hv.fB;exact ⟨_,rfl⟩)) hK
 ·exact key _ rfl (fun β u ok w v hv => .inl (by cases hv;exact ⟨_,rfl⟩)) hK
 ·exact key _ rfl (fun β u ok w v hv => .inr (by cases hv;exact ⟨_,_,_,rfl⟩)) hK
 ·exact hK.elim
def EG (fn:Fn) (n:Nat) (vals:List V) (K:KK):Prop:=K (.func fn (vals.take n) (vals.drop n)) [] [] []
theorem zM {o:Oper} {fn:Fn} {first captured:Array Operand} (ho:o.op = .makeFunc fn first captured) {vals:List V} {h:Key→Option Res} {K:KK} (hK:EG fn first.size vals K) :
  ∃ x δ rd nw,K x δ rd nw∧aC P o vals h x δ rd nw:=by
 refine ⟨_,_,_,_,hK,aC.bJ fun β u ok w ρ e h1 h2 h3=>?_⟩;simp only [ho,Op.operands,Array.toList_append,List.map_append] at h1 h2;subst h2;refine ⟨.func fn (first.map ρ) (captured.map ρ),by simp [execOp,ho,Instr.makeFunc],.func _ _ _ _ _ (by simp) (by simp) (fun i v x hv hx=>?_) (fun i v x hv hx=>?_)⟩
 ·have hi:i<first.size:=by have:=(Array.getElem?_eq_some_iff.1 hv).1;simpa using this
  rw [List.getElem?_take_of_lt hi,List.getElem?_append_left (by simpa using hi)] at hx;simp [hi] at hv hx;subst hv;subst hx;exact h1 _ (by simp)
 ·have hi:i<captured.size:=by have:=(Array.getElem?_eq_some_iff.1 hv).1;simpa using this
  rw [List.getElem?_drop,List.getElem?_append_right (by simp)] at hx;simp [hi] at hv hx;subst hv;subst hx;exact h1 _ (by simp)
def YB (op:BinOp) (b:Bool) (K:D→Prop):Prop:=
 match op with
 | .eql=>K (.bool b)
 | .neq=>K (.bool (!b))
 | _=>False
def V4 (op:BinOp) (ks:List SK) (x y:D) (K:D→Prop):Prop:=
 asAgg x fun cx=>asAgg y fun cy=>aP (!ks.isEmpty) (aP (gJ ks cx) (aP (gJ ks cy) (YB op (aF cx cy) K)))
theorem Oh (hT:TOK P T) {op:BinOp} {t:Nat} (hk:(T t).k.isAgg=true) {x y:D} {K:D→Prop} (h:V4 op (T t).ks x y K) (ox oy:Operand) :
  ∃ d,K d∧∀ (ok:Nat→Prop) (w:World) (vx vy:Value),RdD ok w vx x→RdD ok w vy y→∃ v,(do eqGuard op t ox oy vx vy;binOp op t vx vy).run P w = .ok v w∧RdD ok w v d:=by
 obtain ⟨cx,rfl,h'⟩:=qK h;obtain ⟨cy,rfl,h''⟩:=qK h';obtain ⟨h1,h4⟩:=ah h'';obtain ⟨h2,h5⟩:=ah h4;obtain ⟨h3,h⟩:=ah h5;obtain ⟨hg,hs⟩:=hT.keys (t:=t) (by intro e;rw [e] at hk;cases hk) (by intro e;rw [e] at h1;cases h1);have hag:oI P t=true:=by
  obtain ⟨d,i,hf⟩:=hT.facts (t:=t) (by intro e;rw [e] at hk;cases hk);have hd:=hf.k;unfold oI;rw [hf.und];cases d<;>first | rfl | (rw [hd] at hk;simp [kOf,TK.isAgg] at hk)
 have main:∀ (ok:Nat→Prop) (w:World) (vx vy:Value),RdD ok w vx (.agg cx)→RdD ok w vy (.agg cy)→(Op.equal t vx vy).run P w = .ok (aF cx cy) w∧(∀ op,(eqGuard op t ox oy vx vy).run P w = .ok () w)∧(∃ xs,vx = .agg xs)∧∃ ys,vy = .agg ys:=by
  intro ok w vx vy hx hy;have:=(zQ 9994 6 t _ hs ok w vx vy _ _ hx hy (by simp [Shape,hag,D.one]) (by simp [Shape,hag,D.one]) h2 h3).1;cases hx;cases hy;refine ⟨this,fun op=>?_,⟨_,rfl⟩,⟨_,rfl⟩⟩;cases op<;>simp [eqGuard,hg]
 cases op<;>simp only [YB] at h<;>try exact h.elim
 ·refine ⟨_,h,fun ok w vx vy hx hy=>?_⟩;obtain ⟨e1,e2,⟨xs,rfl⟩,⟨ys,rfl⟩⟩:=main ok w vx vy hx hy;exact ⟨.bool (aF cx cy),by simp [e2,binOp,e1],.bool _⟩
 ·refine ⟨_,h,fun ok w vx vy hx hy=>?_⟩;obtain ⟨e1,e2,⟨xs,rfl⟩,⟨ys,rfl⟩⟩:=main ok w vx vy hx hy;exact ⟨.bool (!aF cx cy),by simp [e2,binOp,e1],.bool _⟩
def VA (op:BinOp) (te:TE) (vals:List V) (K:KK):Prop:=
 match vals with
 | [.d x,.d y]=>match te.k.isAgg with
   | true=>V4 op te.ks x y fun d=>K (.d d) [] [] []
   | false=>V3 op te.k x y fun d=>K (.d d) [] [] []
 | [.ptr _ _,.d y]=>match te.k,y with
   | .ptr,.vI=>uh op false fun d=>K (.d d) [] [] []
   | _,_=>False
 | _=>False
theorem Na (hT:TOK P T) {o:Oper} {op:BinOp} {t ty:Nat} {x y:Operand} (ho:o.op = .binOp op t x y ty) {vals:List V} {h:Key→Option Res} {K:KK} (hK:VA op (T t) vals K) :
  ∃ x δ rd nw,K x δ rd nw∧aC P o vals h x δ rd nw:=by
 unfold VA at hK;split at hK
 ·rename_i dx dy;have key:∃ d,K (.d d) [] [] []∧∀ (ok:Nat→Prop) (w:World) (vx vy:Value),RdD ok w vx dx→RdD ok w vy dy→∃ v,(do eqGuard op t x y vx vy;binOp op t vx vy).run P w = .ok v w∧RdD ok w v d:=by
   split at hK
   ·rename_i hag;exact Oh hT hag hK x y
   have:∃ d,K (.d d) [] [] []∧V3 op (T t).k dx dy fun d'=>d'=d:=by
    unfold V3 at hK ⊢;split at hK
    ·obtain ⟨k,a,rfl,h2⟩:=gB hK;obtain ⟨k',b,rfl,h3⟩:=gB h2;cases op<;>simp only [PL] at h3
     case shl=>exact ⟨_,h3.2,h3.1,rfl⟩
     case shr=>exact ⟨_,h3.2,h3.1,rfl⟩
     all_goals obtain ⟨hk,h4⟩:=bf h3;subst hk
     case add=>cases k<;>first | exact ⟨_,h4.2,h4.1,rfl⟩ | exact ⟨_,h4,rfl⟩
     case sub=>cases k<;>first | exact ⟨_,h4.2,h4.1,rfl⟩ | exact ⟨_,h4,rfl⟩
     case mul=>cases k<;>first | exact ⟨_,h4.2,h4.1,rfl⟩ | exact ⟨_,h4,rfl⟩
     case quo=>cases k<;>first | exact ⟨_,h4.2.2,h4.1,h4.2.1,rfl⟩ | exact ⟨_,h4.2,h4.1,rfl⟩
     case rem=>cases k<;>exact ⟨_,h4.2,h4.1,rfl⟩
     all_goals cases k<;>exact ⟨_,h4,rfl⟩
    ·obtain ⟨a,rfl,h2⟩:=iI hK;obtain ⟨b,rfl,h3⟩:=iI h2;cases op<;>simp only [PK] at h3<;>first | exact ⟨_,h3.2,h3.1,rfl⟩ | exact ⟨_,h3,rfl⟩ | exact h3.elim
    ·obtain ⟨a,rfl,h2⟩:=iK hK;obtain ⟨b,rfl,h3⟩:=iK h2;cases op<;>simp only [J4] at h3<;>first | exact ⟨_,h3,rfl⟩ | exact h3.elim
    ·split at hK<;>first | (cases op<;>simp only [uh] at hK<;>first | exact ⟨_,hK,rfl⟩ | exact hK.elim) | exact hK.elim
    ·exact hK.elim
   obtain ⟨d,h1,h2⟩:=this;refine ⟨d,h1,fun ok w vx vy hx hy=>?_⟩;obtain ⟨d',v,g1,g2,rfl⟩:=Uf (w:=w) hT op t hx hy h2 x y;exact ⟨v,g1,g2⟩
  obtain ⟨d,h1,h2⟩:=key;refine ⟨_,_,_,_,h1,aC.bJ fun β u ok w ρ e g1 g2 g3=>?_⟩;simp only [ho,Op.operands,List.map_cons,List.map_nil,List.cons.injEq,and_true] at g1 g2;have hx:=g1 x (by simp);have hy:=g1 y (by simp);rw [g2.1] at hx;rw [g2.2] at hy;obtain ⟨v,f1,f2⟩:=h2 ok w _ _ hx.fB hy.fB;refine ⟨v,?_,.d _ _ f2⟩;simp only [execOp,ho];rw [Sem.run_bind,f1];rfl
 ·rename_i id off dy;split at hK
  ·rename_i hk;have key:∃ b,K (.d (.bool b)) [] [] []∧((op = .eql∧b=false)∨(op = .neq∧b=true)):=by
    cases op<;>simp only [uh] at hK<;>first | exact ⟨_,hK,.inl ⟨rfl,rfl⟩⟩ | exact ⟨_,hK,.inr ⟨rfl,rfl⟩⟩ | exact hK.elim
   obtain ⟨b,h1,h2⟩:=key;refine ⟨_,_,_,_,h1,aC.bJ fun β u ok w ρ e g1 g2 g3=>?_⟩;simp only [ho,Op.operands,List.map_cons,List.map_nil,List.cons.injEq,and_true] at g1 g2;have hx:=g1 x (by simp);have hy:=g1 y (by simp);rw [g2.1] at hx;rw [g2.2] at hy;have hy':=hy.fB;generalize hvx:ρ x=vx at hx;generalize hvy:ρ y=vy at hy';cases hx with
   | ptr id off b' q1 q2=>
     cases hy';have he:=vO (P:=P) (w:=w) hT hk (some ⟨b',off,none⟩) none (.inr rfl);refine ⟨.bool b,?_,.d _ _ (.bool b)⟩;rcases h2 with ⟨rfl,rfl⟩ | ⟨rfl,rfl⟩<;>simp [execOp,ho,hvx,hvy,kL,binOp,he]
  ·exact hK.elim
 ·exact hK.elim
end
def TE.known (e:TE):Bool:=match e.k with | .none=>false | _=>true
def TE.one (e:TE):Bool:=match e.k with | .none=>false | .agg _=>false | .arr _ _=>false | _=>true
theorem TE.rY {e:TE} (h:e.one=true):e.k ≠ .none∧e.k.isAgg=false:=by
 unfold TE.one at h;cases hk:e.k<;>simp [hk,TK.isAgg] at h ⊢
def MC (r:List D) (K:D→Prop):Prop:=match r with | [c]=>K c | _=>False
theorem wU {r:List D} {K:D→Prop} (h:MC r K):∃ c,r=[c]∧K c:=by
 unfold MC at h;split at h
 ·exact ⟨_,rfl,h⟩
 ·exact h.elim
def yF (r:Option Res) (K:V→Prop):Prop:=match r with | some (.cell v)=>K v | _=>False
theorem qG {r:Option Res} {K:V→Prop} (h:yF r K):∃ v,r=some (.cell v)∧K v:=by
 unfold yF at h;split at h
 ·exact ⟨_,rfl,h⟩
 ·exact h.elim
def jw (r:Option Res) (K:Nat→List D→Prop):Prop:=match r with | some (.arr sz xs)=>K sz xs | _=>False
theorem bW {r:Option Res} {K:Nat→List D→Prop} (h:jw r K):∃ sz xs,r=some (.arr sz xs)∧K sz xs:=by
 unfold jw at h;split at h
 ·exact ⟨_,_,rfl,h⟩
 ·exact h.elim
def getCells (h:Key→Option Res) (id:Nat):(off n:Nat)→(List V→Prop)→Prop
 | _,0,K=>K []
 | off,n+1,K=>yF (h (id,off)) fun v=>getCells h id (off+1) n fun vs=>K (v::vs)
theorem oG (h:Key→Option Res) (id:Nat):∀ (n off:Nat) (K:List V→Prop),getCells h id off n K→∃ vs,vs.length=n∧(∀ j,j<n→∃ v,vs[j]?=some v∧h (id,off+j)=some (.cell v))∧K vs
 | 0,off,K,hK=>⟨[],rfl,fun j hj=>by omega,hK⟩
 | n+1,off,K,hK=>by
   unfold getCells at hK;obtain ⟨v,h1,hK⟩:=qG hK;obtain ⟨vs,h2,h3,hK⟩:=oG h id n (off+1) _ hK;refine ⟨v::vs,by simp [h2],fun j hj=>?_,hK⟩;cases j with
   | zero=>exact ⟨v,rfl,h1⟩
   | succ j=>
     obtain ⟨v',g1,g2⟩:=h3 j (by omega);exact ⟨v',by simpa using g1,by rw [show off+(j+1)=off+1+j by omega];exact g2⟩
def pK (id:Nat):(off n:Nat)→List Key
 | _,0=>[]
 | off,n+1=>(id,off)::pK id (off+1) n
theorem qC (id:Nat):∀ (n off j:Nat),j<n→(id,off+j)∈pK id off n
 | n+1,off,0,_=>by simp [pK]
 | n+1,off,j+1,hj=>by
   have:=qC id n (off+1) j (by omega);rw [show off+1+j=off+(j+1) by omega] at this;simp [pK,this]
def zN (te:TE) (vals:List V) (h:Key→Option Res) (K:KK):Prop:=
 match vals with
 | [.d x]=>NC x fun cs off=>
   wH te.k.isAgg (cut cs off te.size fun r=>K (.d (.agg r)) [] [] []) (aP te.one (cut cs off 1 fun r=>MC r fun c=>K (.d c) [] [] []))
 | [.ptr id off]=>
   wH te.k.isAgg (getCells h id off te.size fun vs=>K (DL vs) [] (pK id off te.size) []) (aP te.one (yF (h (id,off)) fun v=>K v [] [(id,off)] []))
 | [.ael id sz i off]=>jw (h (id,0)) fun sz' xs=>aP (Nat.beq sz sz') (∃ x,xs[i]?=some x ∧
   wH te.k.isAgg (cut x.cells off te.size fun r=>K (.d (.agg r)) [] [(id,0)] []) (aP te.one (cut x.cells off 1 fun r=>MC r fun c=>K (.d c) [] [(id,0)] [])))
 | _=>False
section
variable {P:Program} {T:Nat→TE}
theorem xg (hT:TOK P T) {t:Nat} {vals:List V} {h:Key→Option Res} {K:KK} (hK:zN (T t) vals h K) :
  ∃ v0 x rd,vals=[v0]∧K x [] rd []∧∀ (β:Nat→Value) (u ok:Nat→Prop) (w:World) (vx:Value),RdV β u ok w vx v0→(∀ k∈rd,∀ r,h k=some r→Own β u ok w k r) →
    ∃ v,(Instr.loadAt t vx).run P w = .ok v w∧RdV β u ok w v x:=by
 unfold zN at hK;split at hK
 ·obtain ⟨cs,off,rfl,hK⟩:=mM hK;unfold wH at hK;split at hK
  ·rename_i hag;obtain ⟨r,h1,h2,hK⟩:=mF _ _ _ _ hK;refine ⟨_,_,_,rfl,hK,fun β u ok w vx hx g3=>?_⟩;obtain ⟨v',f1,f2⟩:=y7 hT hag hx.fB h1 h2;exact ⟨v',f1,.d _ _ f2⟩
  ·obtain ⟨ho1,hK⟩:=ah hK;obtain ⟨hk1,hk2⟩:=TE.rY ho1;obtain ⟨r,h1,h2,hK⟩:=mF _ _ _ _ hK;obtain ⟨c,rfl,hK⟩:=wU hK;refine ⟨_,_,_,rfl,hK,fun β u ok w vx hx g3=>?_⟩;obtain ⟨v',f1,f2,_⟩:=y5 hT hk1 hk2 hx.fB (by have:=h2 0 (by omega);simpa using this);exact ⟨v',f1,.d _ _ f2⟩
 ·rename_i id off;unfold wH at hK;split at hK
  ·rename_i hag;obtain ⟨vs,h1,h2,hK⟩:=oG _ _ _ _ _ hK;refine ⟨_,_,_,rfl,hK,fun β u ok w vx hx g3=>?_⟩;cases hx with
   | ptr _ _ b q1 q2=>
     obtain ⟨d,i,hf⟩:=hT.facts (t:=t) (by intro e0;rw [e0] at hag;cases hag);have hown:∀ j,j<(T t).size→∃ v u0,vs[j]?=some v∧w.cell? ⟨b,off+j,none⟩=some u0∧u0.oneCell'=true∧RdV β u ok w u0 v:=fun j hj=>by
      obtain ⟨v,p1,p2⟩:=h2 j hj;obtain ⟨b',c,T',v',f1,f2,f3,f4,f5⟩:=g3 _ (qC id _ off j hj) _ p2;simp only at f1 f3;rw [q2] at f1;simp at f1;subst f1;exact ⟨v,v',p1,by rw [cell_of_row w b _ c T' (0,0) f2];exact f3,f4,f5⟩
     have hl:=hf.sH hag w b off (fun j=>(w.cell? ⟨b,off+j,none⟩).getD undef) (fun j hj=>by
      obtain ⟨v,u0,_,p2,_⟩:=hown j hj;rw [p2];rfl)
     refine ⟨.agg ((List.range (T t).size).map fun j=>(w.cell? ⟨b,off+j,none⟩).getD undef).toArray,(by simp [Instr.loadAt,Instr.sureAddr,hl]),rV (by simp [h1]) (fun j v c hv hc=>?_) (fun j v hv=>?_)⟩
     ·have hj:j<(T t).size:=(by rw [← h1];exact (List.getElem?_eq_some_iff.1 hc).1);obtain ⟨v0,u0,p1,p2,p3,p4⟩:=hown j hj;simp [hj,p2] at hv;rw [p1] at hc;cases hc;rw [← hv];exact p4
     ·have hj:j<(T t).size:=(by have:=(Array.getElem?_eq_some_iff.1 hv).1;simpa using this);obtain ⟨v0,u0,p1,p2,p3,p4⟩:=hown j hj;simp [hj,p2] at hv;rw [← hv];exact p3
  ·obtain ⟨ho1,hK⟩:=ah hK;obtain ⟨hk1,hk2⟩:=TE.rY ho1;obtain ⟨v,h1,hK⟩:=qG hK;refine ⟨_,_,_,rfl,hK,fun β u ok w vx hx g3=>?_⟩;cases hx with
   | ptr _ _ b q1 q2=>
     obtain ⟨d,i,hf⟩:=hT.facts (t:=t) hk1;obtain ⟨b',c,T',v',f1,f2,f3,f4,f5⟩:=g3 _ (by simp) _ h1;simp only at f1 f3;rw [q2] at f1;simp at f1;subst f1;exact ⟨v',(by simp [Instr.loadAt,Instr.sureAddr,hf.kC hk1 hk2 w b off v' (by rw [cell_of_row w b _ c T' (0,0) f2];exact f3)]),f5⟩
 ·rename_i id sz i off;obtain ⟨sz',xs,hh,hK⟩:=bW hK;obtain ⟨hs,y,hy,hK9⟩:=ah hK;have hs':sz=sz':=Nat.eq_of_beq_eq_true hs;subst hs';have base:∀ (β:Nat→Value) (u ok:Nat→Prop) (w:World) (v:Value),RdV β u ok w v (.ael id sz i off)→Own β u ok w (id,0) (.arr sz xs) →
    ∃ b o,v = .pointer (some ⟨b,o+off,none⟩)∧∀ j c,y.cells[j]?=some c→∃ u0,w.cell? ⟨b,o+j,none⟩=some u0∧RdD ok w u0 c∧u0.oneCell'=true∧c.one=true:=fun β u ok w v hv ho=>by
   cases hv with
   | ael _ _ _ _ b o n cap q1 q2=>
     obtain ⟨_,a0,cap',f1,f2,f3,f4,f5,f6⟩:=ho;simp only at f1;rw [q2] at f1;simp at f1;obtain ⟨rfl,rfl,rfl⟩:=f1;have hi:i<xs.length:=(List.getElem?_eq_some_iff.1 hy).1;obtain ⟨b',o',cur,T',e1,e2,e3,e4⟩:=f6 (by omega);simp at e1;obtain ⟨rfl,rfl⟩:=e1;refine ⟨b,o+i*sz,by rw [Nat.add_assoc],fun j c hc=>?_⟩;obtain ⟨u0,p1,p2⟩:=e4 i y j c hy hc;exact ⟨u0,by rw [cell_of_row w b _ cur T' (0,0) e2,← p1,Nat.add_assoc],p2⟩
  unfold wH at hK9;split at hK9
  ·rename_i hag;obtain ⟨r,h1,h2,hK8⟩:=mF _ _ _ _ hK9;refine ⟨_,_,_,rfl,hK8,fun β u ok w vx hx g3=>?_⟩;obtain ⟨b,o,hv,hc⟩:=base β u ok w _ hx (g3 _ (by simp) _ hh);obtain ⟨d,inf,hf⟩:=hT.facts (t:=t) (by intro e0;rw [e0] at hag;cases hag);have hcell:∀ j,j<(T t).size→∃ c u0,r[j]?=some c∧w.cell? ⟨b,o+off+j,none⟩=some u0∧RdD ok w u0 c∧u0.oneCell'=true∧c.one=true:=fun j hj=>by
    have hr:r[j]?=some r[j]:=(by simp);have:=h2 j hj;rw [hr] at this;obtain ⟨u0,p1,p2⟩:=hc _ _ this;exact ⟨r[j],u0,hr,by rw [Nat.add_assoc];exact p1,p2⟩
   have hl:=hf.sH hag w b (o+off) (fun j=>(w.cell? ⟨b,o+off+j,none⟩).getD undef) (fun j hj=>by
    obtain ⟨c,u0,_,p2,_⟩:=hcell j hj;rw [p2];rfl)
   refine ⟨_,(by rw [hv];simp only [Instr.loadAt,Instr.sureAddr,Sem.run_bind,Sem.run_pure,Result.andThen_ok];exact hl),.d _ _ (.agg _ _ (by simp [h1]) (fun j v c hv hc=>?_) (fun j v c hv hc=>?_))⟩
   all_goals
    have hj:j<(T t).size:=(by rw [← h1];exact (List.getElem?_eq_some_iff.1 hc).1);obtain ⟨c0,u0,p1,p2,p3,p4⟩:=hcell j hj;simp [hj,p2] at hv;rw [p1] at hc;cases hc;rw [← hv]
   ·exact p3
   ·exact p4
  ·obtain ⟨ho1,hK8⟩:=ah hK9;obtain ⟨hk1,hk2⟩:=TE.rY ho1;obtain ⟨r,h1,h2,hK7⟩:=mF _ _ _ _ hK8;obtain ⟨c,rfl,hK6⟩:=wU hK7;refine ⟨_,_,_,rfl,hK6,fun β u ok w vx hx g3=>?_⟩;obtain ⟨b,o,hv,hc⟩:=base β u ok w _ hx (g3 _ (by simp) _ hh);obtain ⟨d,inf,hf⟩:=hT.facts (t:=t) hk1;obtain ⟨u0,p1,p2,_⟩:=hc off c (by have:=h2 0 (by omega);simpa using this);exact ⟨u0,(by rw [hv];simp only [Instr.loadAt,Instr.sureAddr,Sem.run_bind,Sem.run_pure,Result.andThen_ok];exact hf.kC hk1 hk2 w b (o+off) u0 p1),.d _ _ p2⟩
 ·exact hK.elim
theorem JO (hT:TOK P T) {o:Oper} {t:Nat} {x:Operand} (ho:o.op = .load t x) {vals:List V} {h:Key→Option Res} {K:KK} (hK:zN (T t) vals h K) :
  ∃ x δ rd nw,K x δ rd nw∧aC P o vals h x δ rd nw:=by
 obtain ⟨v0,y,rd,rfl,hK,hrun⟩:=xg hT hK;refine ⟨_,_,_,_,hK,aC.bJ fun β u ok w ρ e g1 g2 g3=>?_⟩;simp only [ho,Op.operands,List.map_cons,List.map_nil,List.cons.injEq,and_true] at g1 g2;have hx:=g1 x (by simp);rw [g2] at hx;obtain ⟨v,f1,f2⟩:=hrun β u ok w _ hx g3;exact ⟨v,by simp [execOp,ho,f1],f2⟩
def TE.fields (e:TE):List (Nat×Nat×Bool):=match e.k with | .agg fs=>fs | _=>[]
def pW (fs:List (Nat×Nat×Bool)) (f:Nat) (K:Nat→Prop):Prop:=
 match fs,f with
 | (fo,fsz,_)::_,0=>aP (Nat.blt 0 fsz) (K fo)
 | _::fs,f+1=>pW fs f K
 | [],_=>False
theorem vX:∀ (fs:List (Nat×Nat×Bool)) (f:Nat) (K:Nat→Prop),pW fs f K→∃ fo fsz fb,fs[f]?=some (fo,fsz,fb)∧fsz≠0∧K fo
 | (fo,fsz,fb)::fs,0,K,h=>by
   unfold pW at h;obtain ⟨h1,h2⟩:=ah h;exact ⟨fo,fsz,fb,rfl,by have:=Nat.le_of_ble_eq_true h1;omega,h2⟩
 | _::fs,f+1,K,h=>by
   unfold pW at h;obtain ⟨fo,fsz,fb,h1,h2⟩:=vX fs f K h;exact ⟨fo,fsz,fb,by simpa using h1,h2⟩
 | [],_,K,h=>by unfold pW at h;exact h.elim
def AY (te:TE) (f:Nat) (vals:List V) (K:KK):Prop:=
 pW te.fields f fun fo=>
  match vals with
  | [.d x]=>NC x fun cs off=>K (.d (.ref cs (off+fo))) [] [] []
  | [.ptr id off]=>K (.ptr id (off+fo)) [] [] []
  | [.ael id sz i off]=>K (.ael id sz i (off+fo)) [] [] []
  | _=>False
theorem yL (hT:TOK P T) {o:Oper} {t f:Nat} {x:Operand} (ho:o.op = .fieldAddr t x f) {vals:List V} {h:Key→Option Res} {K:KK} (hK:AY (T t) f vals K) :
  ∃ x δ rd nw,K x δ rd nw∧aC P o vals h x δ rd nw:=by
 obtain ⟨fo,fsz,fb,h1,h2,hK⟩:=vX _ _ _ hK;obtain ⟨fs,hk⟩:∃ fs,(T t).k = .agg fs∧(T t).fields=fs:=by
  unfold TE.fields at h1 ⊢;split at h1
  ·rename_i fs hk;exact ⟨fs,hk,rfl⟩
  ·simp at h1
 obtain ⟨hk,hfs⟩:=hk;rw [hfs] at h1;have hrun:∀ (ρ:Operand→Value) (w:World) b o',ρ x = .pointer (some ⟨b,o',none⟩)→(execOp ρ o).run P w = .ok (.value (.pointer (some ⟨b,o'+fo,none⟩))) w:=fun ρ w b o' hx=>by
  have:=KT (w:=w) hT hk h1 h2 b o';simp [execOp,ho,hx,this]
 split at hK
 ·obtain ⟨cs,off,rfl,hK⟩:=mM hK;refine ⟨_,_,_,_,hK,aC.bJ fun β u ok w ρ e g1 g2 g3=>?_⟩;simp only [ho,Op.operands,List.map_cons,List.map_nil,List.cons.injEq,and_true] at g1 g2;have hx:=g1 x (by simp);rw [g2] at hx;have hx':=hx.fB;generalize hvx:ρ x=vx at hx';cases hx' with
  | ref b o' _ _ us q1 q2 q3=>exact ⟨_,hrun ρ w _ _ hvx,.d _ _ (by rw [Nat.add_assoc];exact .ref b o' _ _ us q1 q2 q3)⟩
 ·refine ⟨_,_,_,_,hK,aC.bJ fun β u ok w ρ e g1 g2 g3=>?_⟩;simp only [ho,Op.operands,List.map_cons,List.map_nil,List.cons.injEq,and_true] at g1 g2;have hx:=g1 x (by simp);rw [g2] at hx;generalize hvx:ρ x=vx at hx;cases hx with
  | ptr _ off b q1 q2=>exact ⟨_,hrun ρ w _ _ hvx,.ptr _ _ b q1 q2⟩
 ·rename_i id sz i off _;refine ⟨_,_,_,_,hK,aC.bJ fun β u ok w ρ e g1 g2 g3=>?_⟩;simp only [ho,Op.operands,List.map_cons,List.map_nil,List.cons.injEq,and_true] at g1 g2;have hx:=g1 x (by simp);rw [g2] at hx;generalize hvx:ρ x=vx at hx;cases hx with
  | ael _ _ _ _ b o' n cap q1 q2=>exact ⟨_,hrun ρ w _ _ hvx,by rw [show o'+(i*sz+off)+fo=o'+(i*sz+(off+fo)) by omega];exact .ael _ sz i _ b o' n cap q1 q2⟩
 ·exact hK.elim
def kX (te:TE) (K:Nat→Prop):Prop:=match te.k with | .slc e=>K e | _=>False
theorem fV {te:TE} {K:Nat→Prop} (h:kX te K):∃ e,te.k = .slc e∧K e:=by
 unfold kX at h;split at h
 ·exact ⟨_,by assumption,h⟩
 ·exact h.elim
def AX (T:Nat→TE) (t:Nat) (vals:List V) (K:KK):Prop:=
 kX (T t) fun e=>aP (T e).known <|
  match vals with
  | [.d x,i]=>zV x fun xs=>Bc i fun _ n=>0≤n∧∃ y,xs[n.toNat]?=some y∧y.cells.length=(T e).size∧K (.d (.ref y.cells 0)) [] [] []
  | [.sl id sz off len,i]=>Bc i fun _ n=>(0≤n∧n<len)∧aP (Nat.beq sz (T e).size) (K (.ael id sz (off+n.toNat) 0) [] [] [])
  | _=>False
theorem TE.bP {e:TE} (h:e.known=true):e.k ≠ .none:=by
 intro e0;unfold TE.known at h;rw [e0] at h;cases h
theorem yJ (hT:TOK P T) {o:Oper} {t:Nat} {x ix:Operand} (ho:o.op = .indexAddr t x ix) {vals:List V} {h:Key→Option Res} {K:KK} (hK:AX T t vals K) :
  ∃ x δ rd nw,K x δ rd nw∧aC P o vals h x δ rd nw:=by
 obtain ⟨e,hk,hK⟩:=fV hK;obtain ⟨hkn,hK⟩:=ah hK;have hke:=TE.bP hkn;split at hK
 ·obtain ⟨xs,rfl,hK⟩:=iJ hK;obtain ⟨k,n,rfl,h0,y,hy,hsz,hK⟩:=eU hK;refine ⟨_,_,_,_,hK,aC.bJ fun β u ok w ρ e' g1 g2 g3=>?_⟩;simp only [ho,Op.operands,List.map_cons,List.map_nil,List.cons.injEq,and_true] at g1 g2;have hx:=g1 x (by simp);have hi:=g1 ix (by simp);rw [g2.1] at hx;rw [g2.2] at hi;have hi':=hi.fB;generalize hvi:ρ ix=vi at hi';cases hi';obtain ⟨v',f1,f2⟩:=y8 (k:=k) hT hk hke hx.fB h0 hy hsz;exact ⟨v',by simp [execOp,ho,hvi,f1],.d _ _ f2⟩
 ·rename_i id sz off len i _ _;obtain ⟨k,n,rfl,⟨h0,hlt⟩,hK⟩:=eU hK;obtain ⟨hs,hK⟩:=ah hK;have hs':sz=(T e).size:=Nat.eq_of_beq_eq_true hs;refine ⟨_,_,_,_,hK,aC.bJ fun β u ok w ρ e' g1 g2 g3=>?_⟩;simp only [ho,Op.operands,List.map_cons,List.map_nil,List.cons.injEq,and_true] at g1 g2;have hx:=g1 x (by simp);have hi:=g1 ix (by simp);rw [g2.1] at hx;rw [g2.2] at hi;have hi':=hi.fB;generalize hvi:ρ ix=vi at hi';generalize hvx:ρ x=vx at hx;cases hi';cases hx with
  | sl _ _ _ _ n0 cap a0 a q1 q2 q3 q4 q5=>
    obtain ⟨b,o',e1,e2⟩:=q5 (by omega);obtain ⟨de,ie,hfe⟩:=hT.facts hke;have hu:=hT.slc hk;refine ⟨.pointer (some ⟨b,o'+((off+n.toNat)*sz+0),none⟩),?_,.ael id sz (off+n.toNat) 0 b o' n0 cap q1 (by rw [q2,e1])⟩;have:o'+off*sz+n.toNat*(T e).size=o'+(off+n.toNat)*sz:=(by rw [← hs',Nat.add_mul];omega);simp [execOp,ho,hvi,hvx,e2,Instr.indexAt,run_underlying hu,asIntOf,hfe.sizeOf,h0,hlt,Addr.add_lit,this]
 ·exact hK.elim
def isStr (tk:TK) (p:Prop):Prop:=match tk with | .str=>p | _=>False
theorem OT {tk:TK} {p:Prop} (h:isStr tk p):tk = .str∧p:=by
 unfold isStr at h;split at h
 ·exact ⟨rfl,h⟩
 ·exact h.elim
def QS (te:TE) (vals:List V) (K:KK):Prop:=
 isStr te.k <|
  match vals with
  | [.d x,i]=>IK x fun s=>Bc i fun _ n=>0≤n∧∃ c,s[n.toNat]?=some c∧K (.d (.int .u8 c.toNat)) [] [] []
  | _=>False
theorem FX (hT:TOK P T) {o:Oper} {t:Nat} {x ix:Operand} (ho:o.op = .index t x ix) {vals:List V} {h:Key→Option Res} {K:KK} (hK:QS (T t) vals K) :
  ∃ x δ rd nw,K x δ rd nw∧aC P o vals h x δ rd nw:=by
 obtain ⟨hk,hK⟩:=OT hK;split at hK
 ·obtain ⟨xs,rfl,hK⟩:=iI hK;obtain ⟨k,n,rfl,h0,c,hc,hK⟩:=eU hK;refine ⟨_,_,_,_,hK,aC.bJ fun β u ok w ρ e' g1 g2 g3=>?_⟩;simp only [ho,Op.operands,List.map_cons,List.map_nil,List.cons.injEq,and_true] at g1 g2;have hx:=g1 x (by simp);have hi:=g1 ix (by simp);rw [g2.1] at hx;rw [g2.2] at hi;have hi':=hi.fB;generalize hvi:ρ ix=vi at hi';cases hi';have:=FN (k:=k) hT hk hx.fB h0 hc;exact ⟨_,by simp [execOp,ho,hvi,this],.d _ _ (.int _ _)⟩
 ·exact hK.elim
end
end Go.Abs
