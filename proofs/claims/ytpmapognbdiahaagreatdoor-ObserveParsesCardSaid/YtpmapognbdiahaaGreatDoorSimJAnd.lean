/- Sim: maps made, looked up, written. -/
import Derived.Test.YtpmapognbdiahaaGreatDoorSimIOne
set_option linter.all false
namespace Go.Sim
open Go Go.RowKit
open Go.Abs (TE TK SK TOK TFacts D RdD)
section
variable {P:Program} {T:Nat→TE} {w0:World} {ng:Nat}
theorem tZ {k:TK} {K:Nat→Nat→R} {e r:R} (h:TQ k K e=r) (he:e≠r):∃ a b,k = .map a b∧K a b=r:=by
 cases k<;>first | exact ⟨_,_,rfl,h⟩ | exact absurd h he
theorem Dc {te:TE} {k:V} (h:bW te k=true):te.known=true∧(!te.ks.isEmpty)=true∧fits te.ks (cellsOf k)=true∧asAgg k (fun _=>true) false=te.k.isAgg:=by
 obtain ⟨h1,h2⟩:=aB h;obtain ⟨h3,h4⟩:=aB h1;obtain ⟨h5,h6⟩:=aB h2;refine ⟨h3,h4,h5,?_⟩;revert h6;generalize asAgg k (fun _=>true) false=b;intro h6;cases b<;>cases h:te.k.isAgg<;>rw [h] at h6<;>first | rfl | cases h6
theorem Uf {te:TE} {g:Gh} {n:Nat} {k:V} {u:Value} (h:RV g n k u) (hf:bW te k=true):∃ d:D,(∀ (ok:Nat→Prop) (w:World),RdD ok w u d)∧Abs.bW te d=true∧PDs (cellsOf k) d.cells:=by
 obtain ⟨_,_,h3,h4⟩:=Dc hf;cases k with
 | agg cs=>
   cases h with
   | agg _ vs q1 q2 q3=>
     have hh:RVL g n cs vs.toList:=⟨by simpa using q1,fun i c v hc hv=>q2 i c v hc (by simpa using hv)⟩;obtain ⟨ds,p1,p2,p3,p4⟩:=y9 h3 hh;have hag:te.k.isAgg=true:=h4.symm;refine ⟨.agg ds,fun ok w => .agg vs ds (by simpa using p3.symm) (fun i c d hc hd=>(p4 i c d (by simpa using hc) hd).2.2 ok w) (fun i v d hv hd=>⟨(p4 i v d (by simpa using hv) hd).2.1,(p4 i v d (by simpa using hv) hd).1⟩),?_,p1⟩;simp [Abs.bW,D.cells,D.one,p2,hag]
 | _=>
   first
   | (exfalso;simp [cellsOf] at h3;revert h3;cases te.ks<;>simp [fits,gW]<;>done)
   | (have hsingle:RVL g n [_] [u]:=RVL.cons h RVL.nil
      obtain ⟨ds,p1,p2,p3,p4⟩:=y9 (h3:fits te.ks [_]=true) hsingle
      match ds,p3 with
      | [d],_=>
        obtain ⟨r1,r2,r3⟩:=p4 0 u d rfl rfl;have hag:te.k.isAgg=false:=h4.symm;have hc:d.cells=[d]:=by cases d<;>first | rfl | (simp [D.one] at r1)
        exact ⟨d,r3,by simp [Abs.bW,hc,r1,p2,hag],by rw [hc];exact p1⟩)
theorem Dz:∀ {es:List (D×D)} {k:D} {i:Nat},Abs.o9 es k i=none→∀ (j:Nat) e,es[j]?=some e→Abs.aW k.cells e.1.cells=false
 | [],_,_,_,j,e,h=>by simp at h
 | x::es,k,i,hn,j,e,h=>by
   unfold Abs.o9 at hn;split at hn
   ·cases hn
   ·rename_i hx;cases j with
    | zero=>simp at h;subst h;exact hx
    | succ j=>exact Dz hn j e (by simpa using h)
theorem Dy:∀ {es:List (D×D)} {k:D} {i j:Nat} {d:D},Abs.o9 es k i=some (i+j,d)→∀ (j':Nat) e,j'<j→es[j']?=some e→Abs.aW k.cells e.1.cells=false
 | [],_,_,_,_,h,_,_,_,_=>by simp [Abs.o9] at h
 | x::es,k,i,j,d,hs,j',e,hj,h=>by
   unfold Abs.o9 at hs;split at hs
   ·simp at hs;omega
   ·rename_i hx;cases j' with
    | zero=>simp at h;subst h;exact hx
    | succ j'=>exact Dy (i:=i+1) (j:=j-1) (by rw [hs];congr 2;omega) j' e (by omega) (by simpa using h)
theorem uG:∀ {es:List (V×V)} {k:V},(∀ (j:Nat) e,es[j]?=some e→eqV k e.1=false)→DF es k=none∧(∀ v (K:List (V×V)→R),JY es k v K=K (es++[(k,v)]))∧∀ (K:List (V×V)→R),KX es k K=K es
 | [],_,_=>⟨rfl,fun _ _=>rfl,fun _=>rfl⟩
 | x::es,k,h=>by
   obtain ⟨h1,h2,h3⟩:=uG (es:=es) (k:=k) fun j e he=>h (j+1) e (by simpa using he)
   have hx:=h 0 x rfl;refine ⟨?_,fun v K=>?_,fun K=>?_⟩
   ·show aJ (eqV k x.1) (some x.2) (DF es k)=none;rw [hx];exact h1
   ·show aJ (eqV k x.1) (K ((k,v)::es)) (JY es k v fun es=>K (x::es))=_;rw [hx];exact h2 v _
   ·show aJ (eqV k x.1) (K es) (KX es k fun es=>K (x::es))=_;rw [hx];exact h3 _
theorem uF:∀ {es:List (V×V)} {k:V} {j:Nat} {e:V×V},es[j]?=some e→eqV k e.1=true→(∀ (j':Nat) e,j'<j→es[j']?=some e→eqV k e.1=false)→DF es k=some e.2∧(∀ v (K:List (V×V)→R),JY es k v K=K (es.set j (k,v)))∧∀ (K:List (V×V)→R),KX es k K=K (es.eraseIdx j)
 | [],_,_,_,h,_,_=>by simp at h
 | x::es,k,0,e,h,hk,_=>by
   simp at h;subst h;refine ⟨?_,fun v K=>?_,fun K=>?_⟩
   ·show aJ (eqV k x.1) (some x.2) (DF es k)=_;rw [hk];rfl
   ·show aJ (eqV k x.1) (K ((k,v)::es)) (JY es k v fun es=>K (x::es))=_;rw [hk];rfl
   ·show aJ (eqV k x.1) (K es) (KX es k fun es=>K (x::es))=_;rw [hk];rfl
 | x::es,k,j+1,e,h,hk,hp=>by
   obtain ⟨h1,h2,h3⟩:=uF (es:=es) (k:=k) (j:=j) (e:=e) (by simpa using h) hk fun j' e hj he=>hp (j'+1) e (by omega) (by simpa using he)
   have hx:=hp 0 x (by omega) rfl;refine ⟨?_,fun v K=>?_,fun K=>?_⟩
   ·show aJ (eqV k x.1) (some x.2) (DF es k)=_;rw [hx];exact h1
   ·show aJ (eqV k x.1) (K ((k,v)::es)) (JY es k v fun es=>K (x::es))=_;rw [hx];exact h2 v _
   ·show aJ (eqV k x.1) (K es) (KX es k fun es=>K (x::es))=_;rw [hx];exact h3 _
theorem wo:∀ (es:List (V×V)) (k:V),(∀ (j:Nat) e,es[j]?=some e→eqV k e.1=false)∨∃ (j:Nat) (e:V×V),es[j]?=some e∧eqV k e.1=true∧∀ (j':Nat) e,j'<j→es[j']?=some e→eqV k e.1=false
 | [],_ => .inl fun j e h=>by simp at h
 | x::es,k=>by
   cases hx:eqV k x.1 with
   | true=>exact .inr ⟨0,x,rfl,hx,fun j' e h=>by omega⟩
   | false=>
     rcases wo es k with h | ⟨j,e,h1,h2,h3⟩
     ·refine .inl fun j e he=>?_
      cases j with
      | zero=>simp at he;subst he;exact hx
      | succ j=>exact h j e (by simpa using he)
     ·refine .inr ⟨j+1,e,by simpa using h1,h2,fun j' e' hj he'=>?_⟩;cases j' with
      | zero=>simp at he';subst he';exact hx
      | succ j'=>exact h3 j' e' (by omega) (by simpa using he')
theorem NI {te:TE} {g:Gh} {n:Nat}:∀ {es:List (V×V)} {ents:List MapEntry},ents.length=es.length→(∀ (i:Nat) (m:MapEntry) (e:V×V),ents[i]?=some m→es[i]?=some e→RV g n e.1 m.key∧RV g n e.2 m.val)→(∀ e∈es,bW te e.1=true) →
  ∃ ds:List (D×D),ds.length=es.length∧(∀ (i:Nat) (m:MapEntry) d,ents[i]?=some m→ds[i]?=some d→∀ (ok:Nat→Prop) (w:World),RdD ok w m.key d.1)∧(∀ d∈ds,Abs.bW te d.1=true)∧∀ (i:Nat) e d,es[i]?=some e→ds[i]?=some d→PDs (cellsOf e.1) d.1.cells
 | [],_,_,_,_=>⟨[],rfl,fun i m d _ h=>by simp at h,fun d h=>by simp at h,fun i e d h=>by simp at h⟩
 | _::_,[],h,_,_=>by simp at h
 | x::es,m::ents,hl,h,hf=>by
   obtain ⟨ds,h1,h2,h3,h4⟩:=NI (es:=es) (ents:=ents) (by simpa using hl) (fun i m e hm he=>h (i+1) m e (by simpa using hm) (by simpa using he)) fun e he=>hf e (by simp [he])
   obtain ⟨d,d1,d2,d3⟩:=Uf (h 0 m x rfl rfl).1 (hf x (by simp));refine ⟨(d,d)::ds,by simp [h1],fun i m' d' hm hd=>?_,fun d' hd=>?_,fun i e d' he hd=>?_⟩
   ·cases i with
    | zero=>simp at hm hd;subst hm;subst hd;exact d1
    | succ i=>exact h2 i m' d' (by simpa using hm) (by simpa using hd)
   ·simp at hd;rcases hd with rfl | hd
    ·exact d2
    ·exact h3 _ hd
   ·cases i with
    | zero=>simp at he hd;subst he;subst hd;exact d3
    | succ i=>exact h4 i e d' (by simpa using he) (by simpa using hd)
theorem uz (hT:TOK P T) {kt:Nat} {g:Gh} {n:Nat} {es:List (V×V)} {ents:Array MapEntry} {k:V} {vk:Value} (w:World) (hl:ents.size=es.length)
  (h:∀ (i:Nat) (m:MapEntry) (e:V×V),ents[i]?=some m→es[i]?=some e→RV g n e.1 m.key∧RV g n e.2 m.val) (hf:∀ e∈es,bW (T kt) e.1=true) (hk:RV g n k vk) (hfk:bW (T kt) k=true) :
  (∀ em,(Instr.checkKey em 10000 kt vk).run P w = .ok () w) ∧
  (((Instr.findKey kt vk ents.toList).run P w = .ok none w∧∀ (j:Nat) e,es[j]?=some e→eqV k e.1=false) ∨
    ∃ (j:Nat) (m:MapEntry) (e:V×V),(Instr.findKey kt vk ents.toList).run P w = .ok (some (j,m.val)) w∧ents[j]?=some m∧es[j]?=some e∧eqV k e.1=true∧(∀ (j':Nat) e,j'<j→es[j']?=some e→eqV k e.1=false)∧(Instr.keyThatStays m.key vk).run P w = .ok vk w):=by
 obtain ⟨f1,f2,f3,f4⟩:=Dc hfk;have hKT:=hT.lW f1 f2;obtain ⟨kd,k1,k2,k3⟩:=Uf hk hfk;obtain ⟨ds,d1,d2,d3,d4⟩:=NI (te:=T kt) (es:=es) (ents:=ents.toList) (by simpa using hl) (fun i m e hm he=>h i m e (by simpa using hm) he) hf;have heq:∀ (j:Nat) e d,es[j]?=some e→ds[j]?=some d→eqV k e.1=Abs.aW kd.cells d.1.cells:=fun j e d he hd=>by
  refine Ey k3 (d4 j e d he hd) ?_;obtain ⟨a1,_⟩:=Abs.dU k2;obtain ⟨b1,_⟩:=Abs.dU (d3 d (List.mem_of_getElem? hd));rw [k3.length_eq,(d4 j e d he hd).length_eq,Abs.dn a1,Abs.dn b1]
 have hdat:∀ (j:Nat) e,es[j]?=some e→∃ d,ds[j]?=some d:=fun j e he=>by
  have:j<ds.length:=by rw [d1];exact (List.getElem?_eq_some_iff.1 he).1
  exact ⟨_,List.getElem?_eq_getElem this⟩
 have hl2:ents.toList.length=ds.length:=by rw [d1];simpa using hl
 have hfk':=Abs.Em (P:=P) (ok:=fun _=>True) (w:=w) hKT (k1 _ w) k2 ents.toList ds hl2 (fun j m e hm he=>d2 j m e hm he _ w) d3;refine ⟨fun em=>Abs.AX (ok:=fun _=>True) hKT (k1 _ w) k2 em,?_⟩;rcases Abs.nZ (P:=P) (ok:=fun _=>True) (w:=w) hKT (k1 _ w) k2 ents.toList ds 0 hl2 (fun j m e hm he=>d2 j m e hm he _ w) d3 with ⟨q1,q2,_,_⟩ | ⟨j,m,d,q1,q2,q3,q4,q5,_,_⟩
 ·refine .inl ⟨hfk'.trans q1,fun j e he=>?_⟩;obtain ⟨d,hd⟩:=hdat j e he;rw [heq j e d he hd];exact Dz q2 j d hd
 ·have hj:j<es.length:=by rw [← d1];exact (List.getElem?_eq_some_iff.1 q3).1
  have he:es[j]?=some es[j]:=List.getElem?_eq_getElem hj;refine .inr ⟨j,m,es[j],?_,by simpa using q2,he,by rw [heq j _ d he q3];exact q5,fun j' e hj' he'=>?_,Abs.run_keyThatStays (ok:=fun _=>True) (k1 _ w) (d2 j m d q2 q3 _ w) k2 (d3 d (List.mem_of_getElem? q3)) q5⟩
  ·rw [hfk',q1,Nat.zero_add]
  ·obtain ⟨d',hd'⟩:=hdat j' e he';rw [heq j' e d' he' hd'];exact Dy q4 j' d' hj' hd'
theorem Ba {ng:Nat} (w:World) (r:Nat) (o:Go.Obj):Like ng w (Abs.fV w r o):=⟨rfl,rfl,rfl,by simp [Abs.fV],fun _=>Nat.le_refl _⟩
theorem IJ {o:Oper} {t:Nat} (ho:o.op = .makeMap t none):HOK P T w0 ng o (zS t):=by
 intro call _ vals hh nx K r hr h;obtain ⟨kt,et,hk,k1⟩:=tZ h (hr _);rw [B.eu,B.E8] at k1;refine ⟨_,_,_,k1,.of_run fun g hp ρ w g1 g2 g3=>?_⟩;have st:=Step.new (T:=T) (w0:=w0) (ng:=ng) g1 g2 (iR w (.map #[] 0)) (n:=0) (o := .map kt []) (fun b hb=>heap_alloc_old w _ b hb) ⟨#[],0,by simp only [dL,if_true];exact heap_alloc_new w _,rfl,fun i m e hm=>by simp at hm,⟨fun e he=>by simp at he,by simp [Stamped]⟩⟩;refine ⟨_,_,_,_,.inl (by simp [execOp,ho,Instr.makeMap,newObj,Sem.run];rfl),st,?_⟩;have:=RV.map (g:=dL g nx ⟨w.heap.size,0,0⟩) (n:=nx.inc.num) nx (by rw [B.fO];omega)
 simpa [dL] using this
def TS (ok:Bool) (r0:Option V) (z:V):V:=match ok with | true => .tup [r0.getD z,.bool r0.isSome] | false=>r0.getD z
theorem Ie {ok:Bool} {r0:Option V} {z:V} {K:V→R} {r:R} (h:TT ok r0 z K=r):K (TS ok r0 z)=r:=by
 cases ok<;>cases r0<;>exact h
theorem Eh {g:Gh} {n:Nat} {v:V} {u:Value} (h:RV g n v u) {r0:Option V} {z:V} {b:Bool} (h1:r0.getD z=v) (h2:r0.isSome=b) (ok:Bool):RV g n (TS ok r0 z) (if ok then .tuple #[u,.bool b] else u):=by
 unfold TS;rw [h1,h2];cases ok with
 | false=>exact h
 | true=>
   refine .tup _ _ rfl fun i c x hc hx=>?_
   match i with
   | 0=>simp at hc hx;subst hc;subst hx;exact h
   | 1=>simp at hc hx;subst hc;subst hx;exact .bool b
   | i+2=>simp at hc
theorem zT (hT:TOK P T) {o:Oper} {t:Nat} {x y:Operand} {ok:Bool} (ho:o.op = .lookup t x y ok):HQ P T w0 ng o (NV t ok):=by
 intro call _ vals hh nx K r hr h;obtain ⟨kt,et,hk,k1⟩:=tZ h (hr _);obtain ⟨m,k,rfl,k2⟩:=lq k1 (hr _);obtain ⟨hb,k3⟩:=aG k2 (hr _);obtain ⟨hfk,hke⟩:=aB hb;have hu:=hT.map hk;obtain ⟨d,i,hfe⟩:=hT.facts (Abs.TE.bg hke);have hzero:∀ w,(zeroValue et).run P w = .ok (T et).zero w:=fun w=>by simp [zeroValue,typeInfo,hfe.info,hfe.zero]
 rcases Je k3 with ⟨id,rfl,k4⟩ | ⟨_,k4⟩
 ·obtain ⟨kt',es,hg,k5⟩:=uP k4 (hr _);obtain ⟨hkk,k6⟩:=aG k5 (hr _);have hkk:=beq_iff.1 hkk;subst hkk;refine ⟨_,Ie k6,fun g hp ρ w g1 g2 g3=>?_⟩;obtain ⟨hx,hy⟩:=oK (x:=x) (y:=y) (by simp [ho,Op.operands]) g3;generalize hvx:ρ x=vx at hx;cases hx;obtain ⟨_,ents,clock,e1,e2,e3,e4,_⟩:=g1.obj _ _ (g2 _ _ hg);obtain ⟨hck,hfind⟩:=uz (P:=P) hT w e2 e3 e4 hy hfk;rcases hfind with ⟨q1,q2⟩ | ⟨j,me,e,q1,q2,q3,q4,q5,_⟩
  ·obtain ⟨r1,_,_⟩:=uG q2;rw [r1];refine ⟨if ok then .tuple #[(T et).zero,.bool false] else (T et).zero,?_,Eh (qL g nx.num (T et).zero) rfl rfl ok⟩;cases ok<;>simp [execOp,ho,hvx,Instr.lookup,run_underlying hu,hck,q1,hzero,Go.MapKept.run_getObj_map e1]
  ·obtain ⟨r1,_,_⟩:=uF q3 q4 q5;rw [r1];refine ⟨if ok then .tuple #[me.val,.bool true] else me.val,?_,Eh (e3 j me e q2 q3).2 rfl rfl ok⟩;cases ok<;>simp [execOp,ho,hvx,Instr.lookup,run_underlying hu,hck,q1,Go.MapKept.run_getObj_map e1]
 ·obtain ⟨rfl,k5⟩:=Dh k4 (hr _);refine ⟨_,Ie k5,fun g hp ρ w g1 g2 g3=>?_⟩;obtain ⟨hx,hy⟩:=oK (x:=x) (y:=y) (by simp [ho,Op.operands]) g3;generalize hvx:ρ x=vx at hx;cases hx;obtain ⟨hck,hfind⟩:=uz (P:=P) hT (es:=[]) (ents:=#[]) w rfl (fun i m e hm=>by simp at hm) (fun e he=>by simp at he) hy hfk;rcases hfind with ⟨q1,_⟩ | ⟨j,me,e,_,q2,_⟩
  ·refine ⟨if ok then .tuple #[(T et).zero,.bool false] else (T et).zero,?_,Eh (qL g nx.num (T et).zero) rfl rfl ok⟩;have q1':(Instr.findKey kt (ρ y) []).run P w = .ok none w:=q1;cases ok<;>simp [execOp,ho,hvx,Instr.lookup,run_underlying hu,hck,q1',hzero]
  ·simp at q2
theorem Stamped.push {ents:Array MapEntry} {clock:Nat} (h:Stamped ents clock) {m:MapEntry} (hm:m.born=clock):Stamped (ents.push m) (clock+1):=by
 refine ⟨fun x hx=>?_,?_⟩
 ·rw [Array.toList_push] at hx;rcases List.mem_append.1 hx with hx | hx
  ·exact Nat.lt_succ_of_lt (h.1 x hx)
  ·simp at hx;subst hx;omega
 ·rw [Array.toList_push,List.map_append];refine List.nodup_append.2 ⟨h.2,by simp,fun a ha b hb=>?_⟩;obtain ⟨x,hx,rfl⟩:=List.mem_map.1 ha;simp at hb;subst hb;have:=h.1 x hx;omega
theorem Stamped.XD {ents ents':Array MapEntry} {clock:Nat} (h:Stamped ents clock) (hb:ents'.toList.map (·.born)=ents.toList.map (·.born)):Stamped ents' clock:=by
 refine ⟨fun x hx=>?_,by rw [hb];exact h.2⟩;have:x.born∈ents'.toList.map (·.born):=List.mem_map.2 ⟨x,hx,rfl⟩;rw [hb] at this;obtain ⟨y,hy,e⟩:=List.mem_map.1 this;rw [← e];exact h.1 y hy
theorem Jc (ents:Array MapEntry) (j:Nat) (f:MapEntry→MapEntry) (hf:∀ m,(f m).born=m.born):(ents.modify j f).toList.map (·.born)=ents.toList.map (·.born):=by
 apply List.ext_getElem?;intro i;simp only [List.getElem?_map,Array.getElem?_toList,Array.getElem?_modify];split
 ·cases ents[i]?<;>simp [hf]
 ·rfl
theorem Stamped.erase {ents ents':Array MapEntry} {clock j:Nat} (h:Stamped ents clock) (he:ents'.toList=ents.toList.eraseIdx j):Stamped ents' clock:=by
 refine ⟨fun x hx=>h.1 x (by rw [he] at hx;exact List.mem_of_mem_eraseIdx hx),?_⟩;rw [he];exact List.Nodup.sublist (List.Sublist.map _ (List.eraseIdx_sublist _ _)) h.2
theorem tY {g:Gh} {hp:B→Option Obj} {t:Tr Obj} {nx:B} {w:World} (h:HR T w0 ng g hp nx w) (hs:Sub t hp) {id:B} {kt:Nat} {es es':List (V×V)} (hg:id.get t=some (.map kt es)) {ents':Array MapEntry} (clock':Nat)
  (hl:ents'.size=es'.length) (hr:∀ (i:Nat) (m:MapEntry) (e:V×V),ents'[i]?=some m→es'[i]?=some e→RV g nx.num e.1 m.key∧RV g nx.num e.2 m.val) (hf:∀ e∈es',bW (T kt) e.1=true) (hst:Stamped ents' clock') :
  Step T w0 ng g hp t nx w g (eX hp id (some (.map kt es'))) (id.put t (some (.map kt es'))) nx (Abs.fV w (g id).b (.map ents' clock')):=by
 have ho:=(h.obj id _ (hs id _ hg)).2.blk;exact .write h hs (Ba _ _ _) hg rfl (fun b hb=>Abs.yU w _ b _ hb) ⟨ents',clock',Abs.AY w _ _ ho,hl,hr,hf,hst⟩
theorem qP (hT:TOK P T) {o:Oper} {t:Nat} {x y z:Operand} (ho:o.op = .mapUpdate t x y z∨o.op = .insert t x y z):HOK P T w0 ng o (rH t):=by
 intro call _ vals hh nx K r hr h;obtain ⟨kt,et,hk,k1⟩:=tZ h (hr _);obtain ⟨m,k,v,rfl,k2⟩:=NG k1 (hr _);obtain ⟨hfk,k3⟩:=aG k2 (hr _);obtain ⟨id,rfl,k4⟩:=Aw k3 (hr _);obtain ⟨kt',es,hg,k5⟩:=uP k4 (hr _);obtain ⟨hkk,k6⟩:=aG k5 (hr _);have hkk:=beq_iff.1 hkk;subst hkk;have hu:=hT.map hk;have key:∃ es',JY es k v (fun es=>id.jv hh (some (.map kt es)) fun t'=>K .any t' nx)=(fun es=>id.jv hh (some (.map kt es)) fun t'=>K .any t' nx) es' ∧
   (((∀ (j:Nat) e,es[j]?=some e→eqV k e.1=false)→es'=es++[(k,v)])∧∀ (j:Nat) e,es[j]?=some e→eqV k e.1=true→(∀ (j':Nat) e,j'<j→es[j']?=some e→eqV k e.1=false)→es'=es.set j (k,v)):=by
  rcases wo es k with hA | ⟨j0,e0,p1,p2,p3⟩
  ·exact ⟨_,(uG hA).2.1 v _,fun _=>rfl,fun j e he hb _=>by rw [hA j e he] at hb;cases hb⟩
  ·refine ⟨_,(uF p1 p2 p3).2.1 v _,fun hA=>?_,fun j e he hb hp=>?_⟩
   ·rw [hA j0 e0 p1] at p2;cases p2
   ·rcases Nat.lt_trichotomy j j0 with h | h | h
    ·rw [p3 j e h he] at hb;cases hb
    ·rw [h]
    ·rw [hp j0 e0 h p1] at p2;cases p2
 obtain ⟨es',c1,c2,c3⟩:=key;rw [c1] at k6;simp only [B.eu] at k6;refine ⟨_,_,_,k6,.of_run fun g hp ρ w g1 g2 g3=>?_⟩;obtain ⟨hx,hy,hz⟩:=ag1 (x:=x) (y:=y) (z:=z) (by rcases ho with ho | ho<;>simp [ho,Op.operands]) g3;generalize hvx:ρ x=vx at hx;cases hx;obtain ⟨_,ents,clock,e1,e2,e3,e4,e5⟩:=g1.obj _ _ (g2 _ _ hg);obtain ⟨hck,hfind⟩:=uz (P:=P) hT w e2 e3 e4 hy hfk;have hex:∀ w',(Instr.mapUpdate t (.map (some (g id).b)) (ρ y) (ρ z)).run P w = .ok () w'→(execOp ρ o).run P w = .ok .skip w':=fun w' hrun=>by
  rcases ho with ho | ho<;>simp [execOp,ho,hvx,hrun]
 rcases hfind with ⟨q1,q2⟩ | ⟨j,me,e,q1,q2,q3,q4,q5,q6⟩
 ·have c2:=c2 q2;subst c2
  have st:=tY (T:=T) (w0:=w0) (ng:=ng) g1 g2 hg (es':=es++[(k,v)]) (ents':=ents.push { key:=ρ y,val:=ρ z,born:=clock }) (clock+1) (by simp [e2]) (fun i m e hm he=>by
   rcases Nat.lt_or_ge i ents.size with hi | hi
   ·rw [Array.getElem?_push,if_neg (by omega)] at hm;rw [List.getElem?_append_left (by omega)] at he;exact e3 i m e hm he
   ·have hie:i=ents.size:=by
     have:=(Array.getElem?_eq_some_iff.1 hm).1;simp at this;omega
    subst hie;rw [e2,List.getElem?_append_right (Nat.le_refl _)] at he;simp at hm he;subst hm;subst he;exact ⟨hy,hz⟩) (fun e he=>by
   simp at he;rcases he with he | rfl
   ·exact e4 e he
   ·exact hfk) (e5.push rfl)
  exact ⟨undef,_,_,_,.inr ⟨hex _ (by simp [Instr.mapUpdate,run_underlying hu,Go.MapKept.run_getObj_map e1,hck,q1,Go.MapKept.run_setObj_map _ e1,Abs.fV]),rfl⟩,st,.any _⟩
 ·have c3:=c3 j e q3 q4 q5;subst c3;have hj:j<ents.size:=(Array.getElem?_eq_some_iff.1 q2).1
  have st:=tY (T:=T) (w0:=w0) (ng:=ng) g1 g2 hg (es':=es.set j (k,v)) (ents':=ents.modify j fun e=>{ e with key:=ρ y,val:=ρ z }) clock (by simp [e2]) (fun i m' e' hm he=>by
   by_cases hij:j=i
   ·subst hij;rw [List.getElem?_set_self (by omega)] at he;rw [Array.getElem?_modify,if_pos rfl,q2] at hm;simp at he hm;subst hm;subst he;exact ⟨hy,hz⟩
   ·rw [List.getElem?_set_ne hij] at he;rw [Array.getElem?_modify,if_neg hij] at hm;exact e3 i m' e' hm he) (fun e he=>by
   rcases List.mem_or_eq_of_mem_set he with he | rfl
   ·exact e4 e he
   ·exact hfk) (e5.XD (Jc ents j _ fun _=>rfl))
  exact ⟨undef,_,_,_,.inr ⟨hex _ (by simp [Instr.mapUpdate,run_underlying hu,Go.MapKept.run_getObj_map e1,hck,q1,q2,q6,Go.MapKept.run_setObj_map _ e1,Abs.fV]),rfl⟩,st,.any _⟩
theorem KN (hT:TOK P T) {o:Oper} {t t':Nat} {x y:Operand} (ho:o.op = .call { callee := .builtin .delete,args:=#[x,y],argTypes:=#[t,t'] }):HOK P T w0 ng o (NZ t):=by
 intro call _ vals hh nx K r hr h;obtain ⟨kt,et,hk,k1⟩:=tZ h (hr _);obtain ⟨m,k,rfl,k2⟩:=lq k1 (hr _);obtain ⟨hfk,k3⟩:=aG k2 (hr _);obtain ⟨id,rfl,k4⟩:=Aw k3 (hr _);obtain ⟨kt',es,hg,k5⟩:=uP k4 (hr _);obtain ⟨hkk,k6⟩:=aG k5 (hr _);have hkk:=beq_iff.1 hkk;subst hkk;have hu:=hT.map hk;have key:∃ es',KX es k (fun es=>id.jv hh (some (.map kt es)) fun t'=>K .any t' nx)=(fun es=>id.jv hh (some (.map kt es)) fun t'=>K .any t' nx) es' ∧
   (((∀ (j:Nat) e,es[j]?=some e→eqV k e.1=false)→es'=es)∧∀ (j:Nat) e,es[j]?=some e→eqV k e.1=true→(∀ (j':Nat) e,j'<j→es[j']?=some e→eqV k e.1=false)→es'=es.eraseIdx j):=by
  rcases wo es k with hA | ⟨j0,e0,p1,p2,p3⟩
  ·exact ⟨_,(uG hA).2.2 _,fun _=>rfl,fun j e he hb _=>by rw [hA j e he] at hb;cases hb⟩
  ·refine ⟨_,(uF p1 p2 p3).2.2 _,fun hA=>?_,fun j e he hb hp=>?_⟩
   ·rw [hA j0 e0 p1] at p2;cases p2
   ·rcases Nat.lt_trichotomy j j0 with h | h | h
    ·rw [p3 j e h he] at hb;cases hb
    ·rw [h]
    ·rw [hp j0 e0 h p1] at p2;cases p2
 obtain ⟨es',c1,c2,c3⟩:=key;rw [c1] at k6;simp only [B.eu] at k6;refine ⟨_,_,_,k6,.of_run fun g hp ρ w g1 g2 g3=>?_⟩;obtain ⟨hx,hy⟩:=oK (x:=x) (y:=y) (by simp [ho,Op.operands,Call.operands]) g3;generalize hvx:ρ x=vx at hx;cases hx;obtain ⟨_,ents,clock,e1,e2,e3,e4,e5⟩:=g1.obj _ _ (g2 _ _ hg);obtain ⟨hck,hfind⟩:=uz (P:=P) hT w e2 e3 e4 hy hfk;rcases hfind with ⟨q1,q2⟩ | ⟨j,me,e,q1,q2,q3,q4,q5,q6⟩
 ·have c2:=c2 q2;subst c2;have st:=tY (T:=T) (w0:=w0) (ng:=ng) g1 g2 hg (es':=es') (ents':=ents) clock e2 e3 e4 e5;refine ⟨.tuple #[],_,_,_,.inl ?_,st,.any _⟩;simp [execOp,ho,resolve,invoke,builtin,Builtin.delete_,hvx,run_underlying hu,Go.MapKept.run_getObj_map e1,hck,q1,Go.MapKept.run_setObj_map _ e1,Abs.fV]
 ·have c3:=c3 j e q3 q4 q5;subst c3;have hj:j<ents.size:=(Array.getElem?_eq_some_iff.1 q2).1;have hdel:(ents.eraseIdxIfInBounds j).toList=ents.toList.eraseIdx j:=by unfold Array.eraseIdxIfInBounds;rw [dif_pos hj];exact Array.toList_eraseIdx
  have st:=tY (T:=T) (w0:=w0) (ng:=ng) g1 g2 hg (es':=es.eraseIdx j) (ents':=ents.eraseIdxIfInBounds j) clock (by
    rw [← Array.length_toList,hdel,List.length_eraseIdx,List.length_eraseIdx];simp only [Array.length_toList,e2]) (fun i m' e' hm he'=>by
    have hm2:(ents.toList.eraseIdx j)[i]?=some m':=(by rw [← hdel,Array.getElem?_toList];exact hm);rw [List.getElem?_eraseIdx] at hm2 he';split at hm2
    ·rename_i h1;rw [if_pos h1] at he';exact e3 i m' e' (by simpa using hm2) he'
    ·rename_i h1;rw [if_neg h1] at he';exact e3 (i+1) m' e' (by simpa using hm2) he') (fun e he=>e4 e (List.mem_of_mem_eraseIdx he)) (e5.erase hdel)
  refine ⟨.tuple #[],_,_,_,.inl ?_,st,.any _⟩;simp [execOp,ho,resolve,invoke,builtin,Builtin.delete_,hvx,run_underlying hu,Go.MapKept.run_getObj_map e1,hck,q1,Go.MapKept.run_setObj_map _ e1,Abs.fV]
end
end Go.Sim
namespace Go.Sim
open Go Go.RowKit
open Go.Abs (TE TK SK TOK TFacts)
section
variable {P:Program} {T:Nat→TE} {w0:World} {ng:Nat}
theorem gI {o:Oper} (n:Nat):HOK P T w0 ng o (IW n):=fun _ _ _ _ _ _ _ hr h=>absurd h (hr _)
theorem oW {o:Oper} (n:Nat):HQ P T w0 ng o (IW n):=fun _ _ _ _ _ _ _ hr h=>absurd h (hr _)
theorem afa {f:FR} {K:V→Tr Obj→B→R} {r:R} (h:frK f R.bad K=r) (hr:∀ n,R.bad n≠r):∃ v t nx,f = .ret v t nx∧K v t nx=r:=by
 cases f with
 | bad n=>exact absurd h (hr n)
 | ret v t nx=>exact ⟨v,t,nx,rfl,h⟩
theorem RVL.split {g:Gh} {n:Nat} {c:V} {cs:List V} {l:List Operand} {ρ:Operand→Value} {f:Operand} (h:RVL g n (c::cs) ((f::l).map ρ)):RV g n c (ρ f)∧RVL g n cs (l.map ρ):=by
 obtain ⟨v,vs,e,h1,h2⟩:=h.inv;simp only [List.map_cons,List.cons.injEq] at e;rw [e.1,e.2];exact ⟨h1,h2⟩
theorem UD {o:Oper} {fv:Operand} {as:Array Operand} {tys:Array TypeId} (ho:o.op = .call { callee := .value fv,args:=as,argTypes:=tys }):HOK P T w0 ng o UE:=by
 intro call hcall vals hh nx K r hr h;obtain ⟨vf,vs,rfl,k1⟩:=ND h (hr _);obtain ⟨f,fs,cs,rfl,k2⟩:=yx k1 (hr _);obtain ⟨v,t',nx',k3,k4⟩:=afa k2 hr;refine ⟨v,t',nx',k4,fun g hp a w hw hs hv K' Q hK'=>?_⟩;have hcm:=hcall f _ _ _ _ _ _ k3;have hops:o.op.operands.toList=fv::as.toList:=by simp [ho,Op.operands,Call.operands]
 rw [hops] at hv;obtain ⟨hf,hargs⟩:=hv.split;generalize hvf:a.eval fv=vfv at hf;cases hf with
 | fn _ _ _ xf xc q1 q2 q3 q4=>
   have hfs:RVL g nx.num fs xf.toList:=⟨by simpa using q1,fun i c v hc hv=>q2 i c v hc (by simpa using hv)⟩;have hcs:RVL g nx.num cs xc.toList:=⟨by simpa using q3,fun i c v hc hv=>q4 i c v hc (by simpa using hv)⟩;have hall:=hfs.append (hargs.append hcs);have harr:(xf.toList++(as.toList.map a.eval++xc.toList)).toArray=(xf++as.map a.eval)++xc:=by
    apply Array.ext';simp
   unfold Oper.wp;rcases hcm with ⟨⟨fn,e1,e2,e3⟩,hc⟩ | ⟨rfl,rfl,_,hc⟩
   ·have hcc:=hc g hp w _ hw hs hall;rw [harr] at hcc;have hrun:(execOp a.eval o).run P w = .ok (.enter f ((xf++as.map a.eval)++xc)) w:=by
     have e3':fn.body≠none:=(by intro e;rw [e] at e3;cases e3);have e2':¬ fn.name = "runtime.NumGoroutine" := by simpa using e2
     simp [execOp,ho,resolve,hvf,Deferred.ofValue,invoke,callFunc,e1,e2',e3']
    rw [hrun];refine hcc.mono fun e w' ⟨g',hp',val,he,hst,hrv⟩=>?_
    subst he;exact hK' g' hp' val w' hst hrv
   ·obtain ⟨val,hv1,hv2⟩:=hc g hp w _ hw hs hall;rw [harr] at hv1;have hrun:(execOp a.eval o).run P w = .ok (.value val) w:=by
     simp only [execOp,ho,resolve,hvf,Deferred.ofValue,invoke]
     simpa using hv1
    rw [hrun];exact hK' g hp val w (.refl hw hs) hv2
theorem EG (hT:TOK P T) (o:Oper):HOK P T w0 ng o (opH o.op ng):=by
 generalize hop:o.op=op;cases op<;>try exact gI 111
 case move x=>exact (uq (.inl hop)).ok
 case assign x=>exact (uq (.inr hop)).ok
 case pick c a b=>exact (II hop).ok
 case alloc t=>exact QD hT hop
 case box t x=>exact X7 hop
 case build t ps=>exact (Dw hT hop).ok
 case buildSlice t len ps=>exact zW hT hop
 case load t x=>exact (IL hT hop).ok
 case store t x y=>exact QA hT hop
 case nilCheck x=>exact (uo hop).ok
 case binOp op t x y ty=>exact (Ob hT hop).ok
 case unOp op t x=>exact (Uw hop).ok
 case convert src dst x=>exact (IV hT hop).ok
 case makeFunc f first captured=>
  cases f<;>try exact gI 111
  exact (uw hop).ok
 case makeSlice t l c=>exact Bc hT hop
 case fieldAddr t x f=>exact (qR hT hop).ok
 case field t x f=>exact (Dv hT hop).ok
 case indexAddr t x y=>exact (qQ hT hop).ok
 case index t x y=>exact (Du hT hop).ok
 case extract x i=>exact (wP hop).ok
 case slice t x lo hi mx=>exact (Dq hT hop).ok
 case makeMap t r=>
  cases r with
  | none=>exact IJ hop
  | some r=>exact gI 111
 case lookup t x y c=>exact (zT hT hop).ok
 case mapUpdate t m k v=>exact qP hT (.inl hop)
 case insert t m k v=>exact qP hT (.inr hop)
 case waits g=>exact (Dp hop).ok
 case call c=>
  obtain ⟨callee,⟨as⟩,⟨tys⟩⟩:=c;cases callee<;>try exact gI 110
  case value f=>exact UD hop
  case builtin b=>
   have hop':o.op = .call { callee := .builtin b,args:=⟨as⟩,argTypes:=⟨tys⟩ }:=hop;cases b<;>try exact gI 110
   case len=>
    match as,tys,hop' with
    | [x],[t],hop'=>exact (NW hT hop').ok
    | [],_,_ | _::_::_,_,_ | [_],[],_ | [_],_::_::_,_=>exact gI 110
   case cap=>
    match as,tys,hop' with
    | [x],[t],hop'=>exact (Oa hT hop').ok
    | [],_,_ | _::_::_,_,_ | [_],[],_ | [_],_::_::_,_=>exact gI 110
   case append=>
    match as,tys,hop' with
    | [x,y],[t,t'],hop'=>exact IX hT hop'
    | [],_,_ | [_],_,_ | _::_::_::_,_,_ | [_,_],[],_ | [_,_],[_],_ | [_,_],_::_::_::_,_=>exact gI 110
   case copy=>
    match as,tys,hop' with
    | [x,y],[t,t'],hop'=>exact UA hT hop'
    | [],_,_ | [_],_,_ | _::_::_::_,_,_ | [_,_],[],_ | [_,_],[_],_ | [_,_],_::_::_::_,_=>exact gI 110
   case clear=>
    match as,tys,hop' with
    | [x],[t],hop'=>exact QC hT hop'
    | [],_,_ | _::_::_,_,_ | [_],[],_ | [_],_::_::_,_=>exact gI 110
   case delete=>
    match as,tys,hop' with
    | [x,y],[t,t'],hop'=>exact KN hT hop'
    | [],_,_ | [_],_,_ | _::_::_::_,_,_ | [_,_],[],_ | [_,_],[_],_ | [_,_],_::_::_::_,_=>exact gI 110
   case max=>
    match as,hop' with
    | [x,y],hop'=>exact (yg (mx:=true) hop').ok
    | [],_ | [_],_ | _::_::_::_,_=>exact gI 110
   case min=>
    match as,hop' with
    | [x,y],hop'=>exact (yg (mx:=false) hop').ok
    | [],_ | [_],_ | _::_::_::_,_=>exact gI 110
theorem aaf (hT:TOK P T) (o:Oper) (hq:isQ o.op=true):HQ P T w0 ng o (opH o.op ng):=by
 generalize hop:o.op=op;rw [hop] at hq;cases op<;>try exact oW 111
 case alloc=>cases hq
 case box=>cases hq
 case buildSlice=>cases hq
 case store=>cases hq
 case makeSlice=>cases hq
 case makeMap=>cases hq
 case mapUpdate=>cases hq
 case insert=>cases hq
 case move x=>exact uq (.inl hop)
 case assign x=>exact uq (.inr hop)
 case pick c a b=>exact II hop
 case build t ps=>exact Dw hT hop
 case load t x=>exact IL hT hop
 case nilCheck x=>exact uo hop
 case binOp op t x y ty=>exact Ob hT hop
 case unOp op t x=>exact Uw hop
 case convert src dst x=>exact IV hT hop
 case makeFunc f first captured=>
  cases f<;>try exact oW 111
  exact uw hop
 case fieldAddr t x f=>exact qR hT hop
 case field t x f=>exact Dv hT hop
 case indexAddr t x y=>exact qQ hT hop
 case index t x y=>exact Du hT hop
 case extract x i=>exact wP hop
 case slice t x lo hi mx=>exact Dq hT hop
 case lookup t x y c=>exact zT hT hop
 case waits g=>exact Dp hop
 case call c=>
  obtain ⟨callee,⟨as⟩,⟨tys⟩⟩:=c;cases callee<;>try exact oW 110
  case value f=>cases hq
  case builtin b=>
   have hop':o.op = .call { callee := .builtin b,args:=⟨as⟩,argTypes:=⟨tys⟩ }:=hop;cases b<;>try exact oW 110
   case append=>cases hq
   case copy=>cases hq
   case clear=>cases hq
   case delete=>cases hq
   case len=>
    match as,tys,hop' with
    | [x],[t],hop'=>exact NW hT hop'
    | [],_,_ | _::_::_,_,_ | [_],[],_ | [_],_::_::_,_=>exact oW 110
   case cap=>
    match as,tys,hop' with
    | [x],[t],hop'=>exact Oa hT hop'
    | [],_,_ | _::_::_,_,_ | [_],[],_ | [_],_::_::_,_=>exact oW 110
   case max=>
    match as,hop' with
    | [x,y],hop'=>exact yg (mx:=true) hop'
    | [],_ | [_],_ | _::_::_::_,_=>exact oW 110
   case min=>
    match as,hop' with
    | [x,y],hop'=>exact yg (mx:=false) hop'
    | [],_ | [_],_ | _::_::_::_,_=>exact oW 110
end
theorem zi (op:Op):op.operands.toList=bJ op:=by
 cases op<;>simp [bJ,Op.operands]
 case call c=>
  obtain ⟨callee,⟨as⟩,tys⟩:=c;cases callee<;>simp [Call.operands]
structure AR (ds:List Deferred) (g:Gh) (n:Nat) (nt:Nat) (env:Tr V) (a:Act):Prop where
 defers:a.defers=ds
 size:a.tmps.size=nt
 env:∀ t v,(bOf t).get env=some v→RV g n v (a.tmps.getD t Go.undef)
theorem AR.mono {ds:List Deferred} {g g':Gh} {n n' nt:Nat} {env:Tr V} {a:Act} (he:Ext g g' n) (hn:n≤n') (h:AR ds g n nt env a):AR ds g' n' nt env a:=⟨h.defers,h.size,fun t v hv=>(h.env t v hv).mono he hn⟩
noncomputable def qN (dst:Option Tmp) (env:Tr V) (v:V):Tr V:=match dst with | none=>env | some d=>(bOf d).put env (some v)
theorem LV {R:Type} (dst:Option Tmp) (env:Tr V) (v:V) (K:Tr V→R):tq dst env v K=K (qN dst env v):=by
 cases dst with
 | none=>rfl
 | some d=>exact B.eu _ _ _ _
theorem AR.put {ds:List Deferred} {g:Gh} {n nt:Nat} {env:Tr V} {a:Act} (h:AR ds g n nt env a) {dst:Option Tmp} (hd:∀ d,dst=some d→d<nt) {v:V} {u:Value} (hv:RV g n v u):AR ds g n nt (qN dst env v) (a.put dst u):=by
 cases dst with
 | none=>exact h
 | some d=>
   have hd:=hd d rfl;refine ⟨h.defers,by simp [Act.put,h.size],fun t x hx=>?_⟩;simp only [qN,B.get_put] at hx;by_cases e:bOf t=bOf d
   ·have e':=lF e;subst e';rw [if_pos e] at hx;simp at hx;subst hx;have:(a.put (some t) u).tmps.getD t Go.undef=u:=(by simp [Act.put,h.size,hd]);rw [this];exact hv
   ·rw [if_neg e] at hx;have hne:d≠t:=fun e'=>e (by rw [e'])
    have:(a.put (some d) u).tmps.getD t Go.undef=a.tmps.getD t Go.undef:=(by simp [Act.put,Array.getElem?_setIfInBounds_ne hne]);rw [this];exact h.env t x hx
section
variable {P:Program} {T:Nat→TE} {w0:World} {ng:Nat}
noncomputable def opV (ng:Nat) (env:Tr V):Operand→V
 | .tmp t=>match (bOf t).get env with | some v=>v | none => .any
 | .const v=>cV v
 | .global g=>if g<ng then .ptr (bOf g) 0 else .any
 | .func f => .fn f [] []
theorem vM {R:Type} (x:Operand) (ng:Nat) (env:Tr V) (K:V→R):opK x ng env K=K (opV ng env x):=by
 cases x with
 | tmp t=>
   show (Option.rec (motive:=fun _=>R) (K .any) (fun v=>K v) ((bOf t).get env))=_;simp only [opV];cases (bOf t).get env<;>rfl
 | const v=>rfl
 | global g=>
   show aJ (Nat.blt g ng) _ _=_;rw [aQ];simp only [opV,aN];split<;>rfl
 | func f=>rfl
theorem kT {R:Type} (ng:Nat) (env:Tr V):∀ (xs:List Operand) (K:List V→R),vK xs ng env K=K (xs.map (opV ng env))
 | [],_=>rfl
 | x::xs,K=>by
   show opK x ng env (fun v=>vK xs ng env fun vs=>K (v::vs))=_;rw [vM,kT ng env xs];rfl
theorem AR.eval {ds:List Deferred} {g:Gh} {nx:B} {nt:Nat} {env:Tr V} {a:Act} {hp:B→Option Obj} {w:World} (h:AR ds g nx.num nt env a) (hw:HR T w0 ng g hp nx w) (x:Operand):RV g nx.num (opV ng env x) (a.eval x):=by
 cases x with
 | tmp t=>
   simp only [opV,Act.eval];cases he:(bOf t).get env with
   | none=>exact .any _
   | some v=>exact h.env t v he
 | const v=>exact qL g nx.num v
 | global gl=>
   simp only [opV,Act.eval];split
   ·rename_i hlt;obtain ⟨h1,h2⟩:=hw.glob gl hlt;have:=RV.ptr (g:=g) (n:=nx.num) (bOf gl) 0 (by rw [qx];have:=hw.ngx;omega);rw [h1,h2] at this;exact this
   ·exact .any _
 | func f=>exact .fn f [] [] #[] #[] rfl (fun i c v hc=>by simp at hc) rfl (fun i c v hc=>by simp at hc)
theorem AR.Oi {ds:List Deferred} {g:Gh} {nx:B} {nt:Nat} {env:Tr V} {a:Act} {hp:B→Option Obj} {w:World} (h:AR ds g nx.num nt env a) (hw:HR T w0 ng g hp nx w):∀ xs:List Operand,RVL g nx.num (xs.map (opV ng env)) (xs.map a.eval)
 | [] => .nil
 | x::xs => .cons (h.eval hw x) (AR.Oi h hw xs)
theorem kX {R α:Type}:∀ {j:Nat} {l:List α} {K:α→R} {e r:R},lK j l K e=r→e≠r→∃ x,l[j]?=some x∧K x=r
 | 0,x::l,K,e,r,h,_=>⟨x,rfl,h⟩
 | 0,[],K,e,r,h,he=>absurd h he
 | j+1,_::l,K,e,r,h,he=>by
   obtain ⟨x,h1,h2⟩:=kX (j:=j) (l:=l) h he;exact ⟨x,by simpa using h1,h2⟩
 | j+1,[],K,e,r,h,he=>absurd h he
theorem Kz {α:Type} {v:V} {x e r:α} (h:qj v x e=r) (he:e≠r):v = .undef∧x=r:=by
 cases v<;>first | exact ⟨rfl,h⟩ | exact absurd h he
theorem kG {a b:Bool}:qI a b=true↔a=b:=by cases a<;>cases b<;>simp [qI]
def Wd (all:List Oper) (ng:Nat) (env:Tr V) (o:Oper) (b:Bool):Prop:=match o.guard with
 | none=>b=true
 | some (j,want)=>∃ oj d,all[j]?=some oj∧oj.dst=some d∧((opV ng env (.tmp d) = .undef∧b=false)∨∃ c,opV ng env (.tmp d) = .bool c∧b=(c==want))
theorem Wd.wanted {all:List Oper} {env:Tr V} {o:Oper} {b:Bool} (h:Wd all ng env o b) {ds:List Deferred} {g:Gh} {n nt:Nat} {a:Act} (ha:AR ds g n nt env a) (hd:∀ o∈all,∀ d,o.dst=some d→d<nt):Region.wanted o (yielded all.toArray a.tmps)=b:=by
 unfold Wd at h;unfold Region.wanted;cases hg:o.guard with
 | none=>rw [hg] at h;simp only at h;simp [h]
 | some p=>
   obtain ⟨j,want⟩:=p;rw [hg] at h;obtain ⟨oj,d,h1,h2,h3⟩:=h;have hdn:=hd oj (List.mem_of_getElem? h1) d h2;have hget:a.tmps[d]?=some (a.tmps.getD d Go.undef):=by
    have:d<a.tmps.size:=(by rw [ha.size];exact hdn);simp [this]
   have hy:yielded all.toArray a.tmps j=match a.tmps.getD d Go.undef with | .bool b=>some b | _=>none:=by
    unfold yielded;have e1:(all.toArray[j]?).bind (·.dst)=some d:=(by simp [h1,h2]);rw [e1];simp only [Option.bind_some];rw [hget];generalize a.tmps.getD d Go.undef=u;cases u<;>rfl
   have hv:∀ v,opV ng env (.tmp d)=v→v ≠ .any→RV g n v (a.tmps.getD d Go.undef):=fun v hv hne=>by
    simp only [opV] at hv;cases he:(bOf d).get env with
    | none=>rw [he] at hv;exact absurd hv.symm hne
    | some x=>rw [he] at hv;simp only at hv;rw [← hv];exact ha.env d x he
   simp only [hy];rcases h3 with ⟨e,rfl⟩ | ⟨c,e,rfl⟩
   ·have:=hv _ e (by simp);generalize a.tmps.getD d Go.undef=u at this;cases this;rfl
   ·have:=hv _ e (by simp);generalize a.tmps.getD d Go.undef=u at this;cases this;cases c<;>cases want<;>rfl
theorem jU {o:Oper} {all:List Oper} {h:H} {call:Cl} {env:Tr V} {t:Tr Obj} {nx:B} {k:KE} {r:R} (hr:∀ n,R.bad n≠r) (hs:stepG o.guard all o.dst h (bJ o.op) T call ng env t nx k=r) :
  ∃ b,Wd all ng env o b∧(b=true→h T call ((bJ o.op).map (opV ng env)) t nx (fun v t nx=>k (qN o.dst env v) t nx)=r)∧(b=false→k (qN o.dst env .undef) t nx=r):=by
 unfold Wd;generalize o.guard=gd at hs;cases gd with
 | none=>
   have hs':vK (bJ o.op) ng env (fun vals=>h T call vals t nx fun v t nx=>tq o.dst env v fun env=>k env t nx)=r:=hs;rw [kT] at hs';simp only [LV] at hs';exact ⟨true,rfl,fun _=>hs',fun h=>by cases h⟩
 | some p=>
   obtain ⟨j,want⟩:=p;obtain ⟨oj,h1,h2⟩:=kX (show lK j all _ _=r from hs) (hr _);obtain ⟨d,h3,h4⟩:=eF h2 (hr _);rw [vM] at h4;simp only [LV,kT] at h4;rcases QZ h4 with ⟨c,e,h5⟩ | ⟨_,h5⟩
   ·rw [aQ] at h5;refine ⟨c==want,⟨oj,d,h1,h3,.inr ⟨c,e,rfl⟩⟩,fun hb=>?_,fun hb=>?_⟩
    ·rw [if_pos (kG.2 (by simpa using hb))] at h5;exact h5
    ·rw [if_neg (fun he=>by rw [kG.1 he] at hb;simp at hb)] at h5;exact h5
   ·obtain ⟨e,h6⟩:=Kz h5 (hr _);exact ⟨false,⟨oj,d,h1,h3,.inl ⟨e,rfl⟩⟩,fun h=>(by cases h),fun _=>h6⟩
theorem vC (hT:TOK P T) {call:Cl} (hc:jd P T w0 ng call) {all:List Oper} {nt:Nat} (hd:∀ o∈all,∀ d,o.dst=some d→d<nt) {K:KE} {r:R} (hr:∀ n,R.bad n≠r):∀ {os:List Oper} {env:Tr V} {t:Tr Obj} {nx:B},(∀ o∈os,o∈all) →
  JB os all T call ng env t nx K=r→∃ env' t' nx',K env' t' nx'=r∧∀ {ds:List Deferred} g hp a w,HR T w0 ng g hp nx w→Sub t hp→AR ds g nx.num nt env a→∀ Q:Exit→Act→World→Prop,
   (∀ g' hp' a' w',Step T w0 ng g hp t nx w g' hp' t' nx' w'→AR ds g' nx'.num nt env' a'→Q .normal a' w')→wpList P all.toArray Q os a w
 | [],env,t,nx,_,h=>⟨env,t,nx,h,fun g hp a w h1 h2 h3 Q hQ=>hQ g hp a w (.refl h1 h2) h3⟩
 | o::os,env,t,nx,hin,h=>by
   obtain ⟨b,hw,h1,h2⟩:=jU hr h;have hdo:∀ d,o.dst=some d→d<nt:=hd o (hin o (by simp));cases b with
   | false=>
     obtain ⟨env',t',nx',k1,k2⟩:=vC hT hc hd hr (os:=os) (fun o ho=>hin o (by simp [ho])) (h2 rfl);refine ⟨env',t',nx',k1,fun g hp a w g1 g2 g3 Q hQ=>?_⟩;unfold wpList;rw [hw.wanted g3 hd,if_neg (by simp)];exact k2 g hp _ w g1 g2 (g3.put hdo .undef) Q hQ
   | true=>
     obtain ⟨v,t1,nx1,k1,k2⟩:=EG (P:=P) hT o call hc _ _ _ _ r hr (h1 rfl);obtain ⟨env',t',nx',k3,k4⟩:=vC hT hc hd hr (os:=os) (fun o ho=>hin o (by simp [ho])) k1;refine ⟨env',t',nx',k3,fun g hp a w g1 g2 g3 Q hQ=>?_⟩;unfold wpList;rw [hw.wanted g3 hd,if_pos rfl];refine .inl (k2 g hp a w g1 g2 (by rw [zi];exact g3.Oi g1 _) _ Q fun g1' hp1 v' w1 st hv=>?_);exact k4 g1' hp1 _ w1 st.hr st.sub ((g3.mono st.ext st.le).put hdo hv) Q fun g' hp' a' w' st' ha=>hQ g' hp' a' w' (st.trans st') ha
end
def lG (P:Program) (c:Code) (Q:Exit→Act→World→Prop) (a:Act) (w:World):Prop:=
 ∀ (b:Frame) (k:List Item) (cs:List Frame),∃ e a' w',Q e a' w'∧Arrives P (lone (b.at a (.code c :: .inLoop c::k)) cs w) b k cs e a' w'
theorem lG.wp {P:Program} {c:Code} {Q:Exit→Act→World→Prop} {a:Act} {w:World} (h:lG P c Q a w):(Code.loop c).wp P Q a w:=fun b k cs=>by
 obtain ⟨e,a',w',hq,harr⟩:=h b k cs;exact ⟨e,a',w',hq,.of_steps (.one step_loop) harr⟩
theorem lG.step {P:Program} {c:Code} {Q:Exit→Act→World→Prop} {a:Act} {w:World} (h:c.wp P (Exit.then (lG P c Q) Q) a w):lG P c Q a w:=fun b k cs=>by
 obtain ⟨e,a₁,w₁,hq,harr⟩:=h b (.inLoop c::k) cs;cases e with
 | normal=>
   obtain ⟨e₂,a₂,w₂,hq₂,harr₂⟩:=hq b k cs;exact ⟨e₂,a₂,w₂,hq₂,.of_steps (Steps.trans harr (.one step_inLoop)) harr₂⟩
 | exit id=>exact ⟨_,a₁,w₁,hq,.pass (x := .inLoop c) rfl (fun _ _ => .inl (by simp)) harr⟩
 | goto l=>exact ⟨_,a₁,w₁,hq,.pass (x := .inLoop c) rfl (fun _ _ => .inl (by simp)) harr⟩
 | ret=>exact ⟨_,a₁,w₁,hq,.pass (x := .inLoop c) rfl (fun _ _ => .inl (by simp)) harr⟩
 | panic ch=>exact ⟨_,a₁,w₁,hq,.pass (x := .inLoop c) rfl (fun _ _ => .inl (by simp)) harr⟩
 | outgrown=>exact ⟨_,a₁,w₁,hq,.pass (x := .inLoop c) rfl (fun _ _ => .inl (by simp)) harr⟩
def X.exit:X→Exit | .nrm => .normal | .ex i => .exit i | .ret => .ret
section
variable (P:Program) (T:Nat→TE) (w0:World) (ng:Nat) (nt:Nat)
def Xe (its:List DI) (ops:List Oper):Prop:=∀ call,jd P T w0 ng call→∀ env t nx (K:KE) r,(∀ n,R.bad n≠r)→aeb its ops T call ng env t nx K=r →
 ∃ env' t' nx',K env' t' nx'=r∧∀ {ds:List Deferred} id g hp a w,HR T w0 ng g hp nx w→Sub t hp→AR ds g nx.num nt env a→∀ Q:Exit→Act→World→Prop,
   (∀ g' hp' a' w',Step T w0 ng g hp t nx w g' hp' t' nx' w'→AR ds g' nx'.num nt env' a'→Q .normal a' w')→(Code.region id ops.toArray true).wp P Q a w
def nV (ann:Nat→List DI):Code→Prop
 | .region id ops d=>(∀ o∈ops.toList,∀ x,o.dst=some x→x<nt)∧(d=true→Xe P T w0 ng nt (ann id) ops.toList)
 | .seq a b=>nV ann a∧nV ann b
 | .cond _ a b=>nV ann a∧nV ann b
 | .block _ c=>nV ann c
 | .loop c=>nV ann c
 | _=>True
def QX (ds:List Deferred) (g:Gh) (hp:B→Option Obj) (t:Tr Obj) (nx:B) (w:World) (x:X) (env':Tr V) (t':Tr Obj) (nx':B):Exit→Act→World→Prop:=
 fun e a' w'=>e=x.exit∧∃ g' hp',Step T w0 ng g hp t nx w g' hp' t' nx' w'∧AR ds g' nx'.num nt env' a'
def CT (c:Code) (env:Tr V) (t:Tr Obj) (nx:B) (x:X) (env':Tr V) (t':Tr Obj) (nx':B):Prop:=
 ∀ {ds:List Deferred} g hp a w,HR T w0 ng g hp nx w→Sub t hp→AR ds g nx.num nt env a→c.wp P (QX T w0 ng nt ds g hp t nx w x env' t' nx') a w
def LT (c:Code) (env:Tr V) (t:Tr Obj) (nx:B) (x:X) (env':Tr V) (t':Tr Obj) (nx':B):Prop:=
 ∀ {ds:List Deferred} g hp a w,HR T w0 ng g hp nx w→Sub t hp→AR ds g nx.num nt env a→lG P c (QX T w0 ng nt ds g hp t nx w x env' t' nx') a w
def au (f:Nat) (fe:FE):Prop:=∃ fn,P.funcs[f]?=some fn∧(fn.name == "runtime.NumGoroutine")=false∧fn.body=some fe.body∧fn.results.toList=fe.res∧fn.ntmps=fe.nt∧nV P T w0 ng fe.nt fe.ann fe.body
def FOK (F:Nat→Option FE):Prop:=∀ f fe,F f=some fe→∀ args t nx e v t' nx',fe.pre args t nx e = .ret v t' nx'→Comes P T w0 ng f args t nx v t' nx'∨(e = .ret v t' nx'∧au P T w0 ng f fe)
end
section
variable {P:Program} {T:Nat→TE} {w0:World} {ng:Nat} {nt:Nat}
def PZ (tmps:Array Value):ResultVar→Sem Value
 | .tmp t=>pure (tmps.getD t Go.undef)
 | .cell a t=>do loadVar t (← asAddr (tmps.getD a Go.undef))
theorem JC (fn:Func) (tmps:Array Value):results fn tmps=(do let vs ← fn.results.mapM (PZ tmps);pure (if h:vs.size=1 then vs[0] else .tuple vs)):=by
 unfold results;congr 1
theorem G6 {fn:Func} {a:Act} {w:World} {vs:List Value} (h:(fn.results.toList.mapM (PZ a.tmps)).run P w = .ok vs w) :
  (results fn a.tmps).run P w = .ok (match vs with | [v]=>v | vs => .tuple vs.toArray) w:=by
 rw [JC,Sem.run_bind];have:(fn.results.mapM (PZ a.tmps)).run P w = .ok vs.toArray w:=by
  rw [Array.mapM_eq_mapM_toList];simp only [Sem.run_map,h,Result.andThen_ok]
 rw [this];simp only [Result.andThen_ok,Sem.run_pure]
 match vs with
 | []=>rfl
 | [v]=>rfl
 | v::u::r=>simp
theorem TU {k:TK} {n:Nat} {cs:Tr V} {off:Nat} {K:V→FR} {r:FR} (h:TV k n cs off K=r) (hr:∀ n,FR.bad n≠r) :
  ∃ v,K v=r∧((k.isAgg=true∧∃ vs,eH cs off n=some vs∧v = .agg vs)∨(k.isAgg=false∧k ≠ .none∧(bOf off).get cs=some v)):=by
 have one:∀ (k:TK),(Option.rec (motive:=fun _=>FR) (.bad 2) (fun v=>K v) ((bOf off).get cs))=r→k.isAgg=false→k ≠ .none →
   ∃ v,K v=r∧((k.isAgg=true∧∃ vs,eH cs off n=some vs∧v = .agg vs)∨(k.isAgg=false∧k ≠ .none∧(bOf off).get cs=some v)):=by
  intro k h h1 h2;cases hg:(bOf off).get cs with
  | none=>rw [hg] at h;exact absurd h (hr _)
  | some v=>rw [hg] at h;exact ⟨v,h,.inr ⟨h1,h2,rfl⟩⟩
 cases k with
 | none=>exact absurd h (hr _)
 | agg fs=>obtain ⟨vs,h1,h2⟩:=jJ h (hr _);exact ⟨_,h2,.inl ⟨rfl,vs,h1,rfl⟩⟩
 | arr m e'=>obtain ⟨vs,h1,h2⟩:=jJ h (hr _);exact ⟨_,h2,.inl ⟨rfl,vs,h1,rfl⟩⟩
 | _=>exact one _ h rfl (by simp)
theorem yQ (hT:TOK P T) {env:Tr V} {t:Tr Obj} {nx:B} {r:FR} (hr:∀ n,FR.bad n≠r):∀ {rs:List ResultVar} {K:List V→FR},LK rs T ng env t K=r →
  ∃ vs,K vs=r∧∀ {ds:List Deferred} g hp a w,HR T w0 ng g hp nx w→Sub t hp→AR ds g nx.num nt env a→∃ us:List Value,(rs.mapM (PZ a.tmps)).run P w = .ok us w∧RVL g nx.num vs us
 | [],K,h=>⟨[],h,fun g hp a w _ _ _=>⟨[],by simp,.nil⟩⟩
 | .tmp x::rs,K,h=>by
   have h':opK (.tmp x) ng env (fun v=>LK rs T ng env t fun vs=>K (v::vs))=r:=h;rw [vM] at h';obtain ⟨vs,k1,k2⟩:=yQ hT hr h';refine ⟨_,k1,fun g hp a w h1 h2 h3=>?_⟩;obtain ⟨us,e1,e2⟩:=k2 g hp a w h1 h2 h3;refine ⟨a.tmps.getD x Go.undef::us,?_,.cons (h3.eval h1 (.tmp x)) e2⟩;rw [List.mapM_cons];simp only [PZ,Sem.run_bind,Sem.run_pure,Result.andThen_ok,e1]
 | .cell x ty::rs,K,h=>by
   have h':opK (.tmp x) ng env (fun v=>jr v (fun id off=>iP (id.get t) (fun _ _ _ cs=>TV (T ty).k (T ty).size cs off fun v=>LK rs T ng env t fun vs=>K (v::vs)) (.bad 116)) (.bad 117))=r:=h;rw [vM] at h';obtain ⟨id,off,hp',k0⟩:=jq h' (hr _);obtain ⟨ro,sz,hi,cs,hg,k1⟩:=fK k0 (hr _);obtain ⟨v,k2,hv⟩:=TU k1 hr;obtain ⟨vs,k3,k4⟩:=yQ hT hr k2;refine ⟨_,k3,fun g hp a w h1 h2 h3=>?_⟩;obtain ⟨us,e1,e2⟩:=k4 g hp a w h1 h2 h3;have hx:=h3.eval h1 (.tmp x);rw [hp'] at hx;obtain ⟨u,e3,e4⟩:=run_load hT h1 h2 hg hv;have hx':a.tmps.getD x Go.undef = .pointer (some ⟨(g id).b,(g id).o+off,none⟩):=by
    have:a.eval (.tmp x) = .pointer (some ⟨(g id).b,(g id).o+off,none⟩):=by
     generalize a.eval (.tmp x)=u at hx;cases hx;rfl
    exact this
   refine ⟨u::us,?_,.cons e4 e2⟩;rw [List.mapM_cons];simp only [PZ,Sem.run_bind,hx',asAddr,Sem.run_pure,Result.andThen_ok,e3,e1]
theorem Wu {f:Nat} {fe:FE} {fn:Func} {args:List V} {t:Tr Obj} {nx:B} {x:X} {env1:Tr V} {t1:Tr Obj} {nx1:B} {v:V} {t':Tr Obj} {nx':B} (e1:P.funcs[f]?=some fn) (e2:(fn.name == "runtime.NumGoroutine")=false) (e3:fn.body=some fe.body) (e4:fn.results.toList=fe.res) (e5:fn.ntmps=fe.nt)
  (hT:TOK P T) (hle:args.length≤fe.nt) (hct:CT P T w0 ng fe.nt fe.body (fB args .lf 0) t nx x env1 t1 nx1) (k5:aix x fe.res T ng env1 t1 nx1 = .ret v t' nx'):pU P T w0 ng f args t nx v t' nx':=by
 have hb:∀ n,FR.bad n ≠ .ret v t' nx':=fun n h=>by cases h
 refine ⟨⟨fn,e1,e2,by rw [e3];rfl⟩,fun g hp w vs h1 h2 h3=>calls_of_wp e1 e3 ?_⟩;have hlen:vs.length=args.length:=h3.1;have ha:AR [] g nx.num fe.nt (fB args .lf 0) { tmps:=vs.toArray++Array.replicate (fn.ntmps-vs.toArray.size) Go.undef,defers:=[] }:=by
  refine ⟨rfl,by simp [e5];omega,fun i c hc=>?_⟩;rw [bY] at hc;split at hc
  ·rename_i hi;rw [Nat.sub_zero] at hc;have hlt:i<vs.length:=(by omega);have e:(vs.toArray++Array.replicate (fn.ntmps-vs.toArray.size) Go.undef).getD i Go.undef=vs[i]:=by
    have:i<vs.toArray.size:=(by simpa using hlt);simp [Array.getElem?_append_left this,hlt]
   rw [e];exact h3.2 i c vs[i] hc (List.getElem?_eq_getElem hlt)
  ·rw [B.dO] at hc;cases hc
 refine wp_mono (hct g hp _ w h1 h2 ha) fun e a' w' ⟨he,g',hp',st,ha'⟩=>?_
 subst he;have fin:resV fe.res T ng env1 t1 (fun v => .ret v t1 nx1) = .ret v t' nx'→a'.defers=[]∧∃ u,(results fn a'.tmps).run P w' = .ok u w'∧∃ g' hp' val,Ending.returned u = .returned val∧Step T w0 ng g hp t nx w g' hp' t' nx' w'∧RV g' nx'.num v val:=fun k6=>by
  obtain ⟨rs,k7,k8⟩:=yQ (P:=P) (w0:=w0) (ng:=ng) (nt:=fe.nt) (nx:=nx1) hT hb k6;obtain ⟨us,r1,r2⟩:=k8 g' hp' a' w' st.hr st.sub ha';rw [← e4] at r1;refine ⟨ha'.defers,_,G6 r1,g',hp',_,rfl,?_⟩
  match rs,us,r2,k7 with
  | [c],[u],r2,k7=>
    have k7:FR.ret c t1 nx1 = .ret v t' nx':=k7;cases k7;exact ⟨st,r2.2 0 _ u rfl rfl⟩
  | [],[],r2,k7=>
    have k7:FR.ret (.tup []) t1 nx1 = .ret v t' nx':=k7;cases k7;exact ⟨st,.tup _ _ rfl fun i c u hc=>by simp at hc⟩
  | c::c2::cs,u::u2::us,r2,k7=>
    have k7:FR.ret (.tup (c::c2::cs)) t1 nx1 = .ret v t' nx':=k7;cases k7;exact ⟨st,.tup _ _ (by simpa using r2.1) fun i c u hc hu=>r2.2 i c u hc (by simpa using hu)⟩
  | [],_::_,r2,_=>exact absurd r2.1 (by simp)
  | [_],[],r2,_=>exact absurd r2.1 (by simp)
  | [_],_::_::_,r2,_=>exact absurd r2.1 (by simp)
  | _::_::_,[],r2,_=>exact absurd r2.1 (by simp)
  | _::_::_,[_],r2,_=>exact absurd r2.1 (by simp)
 cases x with
 | nrm=>exact fin k5
 | ret=>exact fin k5
 | ex i=>exact absurd k5 (hb _)
end
def edM (ms:List Nat):List Edge→Option Nat
 | []=>some 0
 | e::es=>match Region.binds .any e with
   | true=>(match ms[e.on]? with
     | some m=>(match edM ms es with | some r=>some (m ||| (2 ^ e.on) ||| r) | none=>none)
     | none=>none)
   | false=>edM ms es
def masks:List Oper→List Nat→Option (List Nat)
 | [],ms=>some ms
 | o::os,ms=>match edM ms o.after.toList with | some m=>masks os (ms++[m]) | none=>none
theorem Ae {ms:List Nat}:∀ {es:List Edge} {r:Nat},edM ms es=some r→∀ i,r.testBit i=true→∃ e∈es,Region.binds .any e=true∧e.on<ms.length∧(e.on=i∨∃ m,ms[e.on]?=some m∧m.testBit i=true)
 | [],r,h,i,hi=>by simp [edM] at h;subst h;simp at hi
 | e::es,r,h,i,hi=>by
   unfold edM at h;split at h
   ·rename_i hb;split at h
    ·rename_i m hm;split at h
     ·rename_i r' hr';simp at h;subst h;rw [Nat.testBit_or,Nat.testBit_or] at hi;have hlt:e.on<ms.length:=(List.getElem?_eq_some_iff.1 hm).1;simp only [Bool.or_eq_true] at hi;rcases hi with (hi | hi) | hi
      ·exact ⟨e,by simp,hb,hlt,.inr ⟨m,hm,hi⟩⟩
      ·rw [Nat.testBit_two_pow] at hi;exact ⟨e,by simp,hb,hlt,.inl (by simpa using hi)⟩
      ·obtain ⟨e',h1,h2⟩:=Ae hr' i hi;exact ⟨e',by simp [h1],h2⟩
     ·cases h
    ·cases h
   ·obtain ⟨e',h1,h2⟩:=Ae h i hi;exact ⟨e',by simp [h1],h2⟩
theorem zB:∀ {os:List Oper} {ms r:List Nat},masks os ms=some r→r.length=ms.length+os.length∧(∀ j,j<ms.length→r[j]?=ms[j]?) ∧
  ∀ j o,os[j]?=some o→∃ m,r[ms.length+j]?=some m∧∀ i,m.testBit i=true→∃ e∈o.after,Region.binds .any e=true∧e.on<ms.length+j∧(e.on=i∨∃ m',r[e.on]?=some m'∧m'.testBit i=true)
 | [],ms,r,h=>by simp [masks] at h;subst h;exact ⟨by simp,fun _ _=>rfl,fun j o ho=>by simp at ho⟩
 | o::os,ms,r,h=>by
   unfold masks at h;split at h
   ·rename_i m hm;obtain ⟨h1,h2,h3⟩:=zB h;simp only [List.length_append,List.length_cons,List.length_nil] at h1 h2 h3;have hold:∀ j,j<ms.length→r[j]?=ms[j]?:=fun j hj=>by rw [h2 j (by omega),List.getElem?_append_left hj]
    refine ⟨by simp;omega,hold,fun j o' ho'=>?_⟩;cases j with
    | zero=>
      simp at ho';subst ho';refine ⟨m,by rw [Nat.add_zero,h2 _ (by omega)];simp,fun i hi=>?_⟩;obtain ⟨e,e1,e2,e3,e4⟩:=Ae hm i hi;exact ⟨e,by simpa using e1,e2,by omega,e4.imp id fun ⟨m',f1,f2⟩=>⟨m',by rw [hold _ e3];exact f1,f2⟩⟩
    | succ j=>
      obtain ⟨m',e1,e2⟩:=h3 j o' (by simpa using ho')
      exact ⟨m',by rw [show ms.length+(j+1)=ms.length+(0+1)+j by omega];exact e1,fun i hi=>by
       obtain ⟨e,f1,f2,f3,f4⟩:=e2 i hi
       exact ⟨e,f1,f2,by omega,f4⟩⟩
   ·cases h
theorem afr:∀ (es:List Edge) (l:List Nat) (r:Nat),edM l es=some r→∀ e∈es,Region.binds .any e=true→e.on<l.length:=by
 intro es
 induction es with
 | nil=>intro l r _ e he;cases he
 | cons z es ih=>
   intro l r hr e he hb;unfold edM at hr;split at hr
   ·split at hr
    ·rename_i m hm;split at hr
     ·rename_i r' hr';rcases List.mem_cons.1 he with rfl | he
      ·exact (List.getElem?_eq_some_iff.1 hm).1
      ·exact ih l r' hr' e he hb
     ·cases hr
    ·cases hr
   ·rename_i hnb;rcases List.mem_cons.1 he with rfl | he
    ·exact absurd hb (by rw [hnb];simp)
    ·exact ih l r hr e he hb
theorem TM:∀ (os:List Oper) (l r:List Nat),masks os l=some r→∀ (j:Nat) o,os[j]?=some o→∀ e∈o.after,Region.binds .any e=true→e.on<l.length+j:=by
 intro os
 induction os with
 | nil=>intro l r _ j o ho;simp at ho
 | cons z os ih=>
   intro l r hr j o ho e he hb;unfold masks at hr;split at hr
   ·rename_i m hm;cases j with
    | zero=>simp at ho;subst ho;exact afr _ _ _ hm e (by simpa using he) hb
    | succ j=>have:=ih _ _ hr j o (by simpa using ho) e he hb;simp at this;omega
   ·cases hr
def pR (ops:List Oper) (ms:List Nat):Prop:=∃ rk:Nat→Nat,ms.length=ops.length∧∀ j o,ops[j]?=some o→(∀ e∈o.after,Region.binds .any e=true→rk e.on<rk j∧e.on<ops.length) ∧
 ∃ m,ms[j]?=some m∧∀ i,m.testBit i=true→∃ e∈o.after,Region.binds .any e=true∧(e.on=i∨∃ m',ms[e.on]?=some m'∧m'.testBit i=true)
theorem TN {ops:List Oper} {ms:List Nat} (h:masks ops []=some ms):pR ops ms:=by
 obtain ⟨h1,_,h3⟩:=zB h;simp only [List.length_nil,Nat.zero_add] at h1 h3;refine ⟨id,h1,fun j o ho=>⟨fun e he hb=>?_,?_⟩⟩
 ·have:=TM ops [] ms h j o ho e he hb;simp only [List.length_nil,Nat.zero_add] at this;exact ⟨this,Nat.lt_trans this (List.getElem?_eq_some_iff.1 ho).1⟩
 ·obtain ⟨m,e1,e2⟩:=h3 j o ho;exact ⟨m,e1,fun i hi=>by obtain ⟨e,f1,f2,_,f4⟩:=e2 i hi;exact ⟨e,f1,f2,f4⟩⟩
def lkM:List (Nat×Nat)→Nat→Option Nat
 | [],_=>none
 | x::l,k=>match Nat.beq x.1 k with | true=>some x.2 | false=>lkM l k
def edP (acc:List (Nat×Nat)):List Edge→Option Nat
 | []=>some 0
 | e::es=>match Region.binds .any e with
   | true=>(match lkM acc e.on with
     | some m=>(match edP acc es with | some r=>some (m ||| (2 ^ e.on) ||| r) | none=>none)
     | none=>none)
   | false=>edP acc es
def zC (ops:List Oper):List Nat→List (Nat×Nat)→Option (List (Nat×Nat))
 | [],acc=>some acc
 | k::ks,acc=>match lkM acc k,ops[k]? with
   | none,some o=>(match edP acc o.after.toList with | some m=>zC ops ks ((k,m)::acc) | none=>none)
   | _,_=>none
def Il (acc:List (Nat×Nat)):List Nat→Option (List Nat)
 | []=>some []
 | k::ks=>match lkM acc k,Il acc ks with
   | some m,some r=>some (m::r)
   | _,_=>none
def TP (ops:List Oper) (ks:List Nat):Option (List Nat):=match zC ops ks [] with | some acc=>Il acc (List.range ops.length) | none=>none
def Kq (ops:List Oper) (ks:List Nat):Option (List Nat):=match masks ops [] with | some ms=>some ms | none=>TP ops ks
def posM:List (Nat×Nat)→Nat→Nat
 | [],_=>0
 | x::l,k=>if x.1=k then l.length+1 else posM l k
theorem LY:∀ (l:List (Nat×Nat)) (k:Nat),posM l k≤l.length
 | [],_=>Nat.le_refl _
 | x::l,k=>by unfold posM;split;simp;have:=LY l k;simp;omega
theorem Ik (x:Nat×Nat) (l:List (Nat×Nat)) (k:Nat):lkM (x::l) k=if x.1=k then some x.2 else lkM l k:=by
 show (match Nat.beq x.1 k with | true=>some x.2 | false=>lkM l k)=_;split
 ·rename_i h;rw [if_pos (Nat.eq_of_beq_eq_true h)]
 ·rename_i h;rw [if_neg (fun e=>by rw [e,Nat.beq_refl] at h;cases h)]
theorem Ad {acc:List (Nat×Nat)}:∀ {es:List Edge} {r:Nat},edP acc es=some r→(∀ e∈es,Region.binds .any e=true→∃ m,lkM acc e.on=some m)∧∀ i,r.testBit i=true→∃ e∈es,Region.binds .any e=true∧(e.on=i∨∃ m,lkM acc e.on=some m∧m.testBit i=true)
 | [],r,h=>by simp [edP] at h;subst h;exact ⟨fun e he=>(by cases he),fun i hi=>by simp at hi⟩
 | e::es,r,h=>by
   unfold edP at h;split at h
   ·rename_i hb;split at h
    ·rename_i m hm;split at h
     ·rename_i r' hr';simp at h;subst h;obtain ⟨g1,g2⟩:=Ad hr';refine ⟨fun e' he' hb'=>?_,fun i hi=>?_⟩
      ·rcases List.mem_cons.1 he' with rfl | he'
       ·exact ⟨m,hm⟩
       ·exact g1 e' he' hb'
      ·rw [Nat.testBit_or,Nat.testBit_or] at hi;simp only [Bool.or_eq_true] at hi;rcases hi with (hi | hi) | hi
       ·exact ⟨e,by simp,hb,.inr ⟨m,hm,hi⟩⟩
       ·rw [Nat.testBit_two_pow] at hi;exact ⟨e,by simp,hb,.inl (by simpa using hi)⟩
       ·obtain ⟨e',h1,h2⟩:=g2 i hi;exact ⟨e',by simp [h1],h2⟩
     ·cases h
    ·cases h
   ·rename_i hnb;obtain ⟨g1,g2⟩:=Ad h;refine ⟨fun e' he' hb'=>?_,fun i hi=>?_⟩
    ·rcases List.mem_cons.1 he' with rfl | he'
     ·exact absurd hb' (by rw [hnb];simp)
     ·exact g1 e' he' hb'
    ·obtain ⟨e',h1,h2⟩:=g2 i hi;exact ⟨e',by simp [h1],h2⟩
def adW (ops:List Oper) (acc:List (Nat×Nat)):Prop:=∀ k m,lkM acc k=some m→∃ o,ops[k]?=some o∧(∀ e∈o.after,Region.binds .any e=true→posM acc e.on<posM acc k∧∃ m',lkM acc e.on=some m') ∧
 ∀ i,m.testBit i=true→∃ e∈o.after,Region.binds .any e=true∧(e.on=i∨∃ m',lkM acc e.on=some m'∧m'.testBit i=true)
theorem CJ {ops:List Oper}:∀ {ks:List Nat} {acc r:List (Nat×Nat)},zC ops ks acc=some r→adW ops acc→adW ops r
 | [],acc,r,h,ha=>by simp [zC] at h;subst h;exact ha
 | k::ks,acc,r,h,ha=>by
   unfold zC at h;split at h
   case h_2=>cases h
   rename_i o hn ho;split at h
   case h_2=>cases h
   rename_i m hm;refine CJ h fun k' m' hk'=>?_
   obtain ⟨g1,g2⟩:=Ad hm;have hne:∀ j m1,lkM acc j=some m1→k≠j:=fun j m1 hj e=>by subst e;rw [hn] at hj;cases hj
   have hpos:∀ j m1,lkM acc j=some m1→posM ((k,m)::acc) j=posM acc j∧lkM ((k,m)::acc) j=some m1:=fun j m1 hj=>by
    refine ⟨?_,?_⟩
    ·show (if k=j then _ else _)=_;rw [if_neg (hne j m1 hj)]
    ·rw [Ik];show (if k=j then _ else _)=_;rw [if_neg (hne j m1 hj),hj]
   rw [Ik] at hk';simp only at hk';split at hk'
   ·rename_i e;subst e;cases hk';refine ⟨o,ho,fun e he hb=>?_,fun i hi=>?_⟩
    ·obtain ⟨m1,hm1⟩:=g1 e (by simpa using he) hb;obtain ⟨q1,q2⟩:=hpos _ _ hm1;refine ⟨?_,m1,q2⟩;rw [q1];show _<(if k=k then _ else _);rw [if_pos rfl];have:=LY acc e.on;omega
    ·obtain ⟨e,h1,h2,h3⟩:=g2 i hi;refine ⟨e,by simpa using h1,h2,h3.imp id fun ⟨m1,f1,f2⟩=>⟨m1,(hpos _ _ f1).2,f2⟩⟩
   ·rename_i e;obtain ⟨o',f1,f2,f3⟩:=ha k' m' hk';refine ⟨o',f1,fun e he hb=>?_,fun i hi=>?_⟩
    ·obtain ⟨q1,m1,q2⟩:=f2 e he hb;rw [(hpos _ _ q2).1,(hpos _ _ hk').1];exact ⟨q1,m1,(hpos _ _ q2).2⟩
    ·obtain ⟨e,h1,h2,h3⟩:=f3 i hi;exact ⟨e,h1,h2,h3.imp id fun ⟨m1,q1,q2⟩=>⟨m1,(hpos _ _ q1).2,q2⟩⟩
theorem zD {acc:List (Nat×Nat)}:∀ {ks r:List Nat},Il acc ks=some r→r.length=ks.length∧∀ (j k:Nat),ks[j]?=some k→∃ m,r[j]?=some m∧lkM acc k=some m
 | [],r,h=>by simp [Il] at h;subst h;exact ⟨rfl,fun j k hj=>by simp at hj⟩
 | k::ks,r,h=>by
   unfold Il at h;split at h
   case h_2=>cases h
   rename_i m r' hm hr';simp at h;subst h;obtain ⟨h1,h2⟩:=zD hr';refine ⟨by simp [h1],fun j k' hj=>?_⟩;cases j with
   | zero=>simp at hj;subst hj;exact ⟨m,rfl,hm⟩
   | succ j=>exact h2 j k' (by simpa using hj)
theorem CO {ops:List Oper} {ks ms:List Nat} (h:Kq ops ks=some ms):pR ops ms:=by
 unfold Kq at h;split at h
 ·rename_i ms' hm;cases h;exact TN hm
 ·unfold TP at h;split at h
  case h_2=>cases h
  rename_i acc hacc;have ha:=CJ hacc (fun k m hk=>by simp [lkM] at hk);obtain ⟨h1,h2⟩:=zD h;have hin:∀ k,k<ops.length→∃ m,ms[k]?=some m∧lkM acc k=some m:=fun k hk=>h2 k k (by simp [List.getElem?_range,hk])
  refine ⟨posM acc,by simpa using h1,fun j o ho=>?_⟩;have hj:=(List.getElem?_eq_some_iff.1 ho).1;obtain ⟨m,e1,e2⟩:=hin j hj;obtain ⟨o',f1,f2,f3⟩:=ha j m e2;rw [ho] at f1;cases f1;have hlt:∀ k m,lkM acc k=some m→k<ops.length:=fun k m hk=>by obtain ⟨o'',g1,_⟩:=ha k m hk;exact (List.getElem?_eq_some_iff.1 g1).1
  refine ⟨fun e he hb=>?_,m,e1,fun i hi=>?_⟩
  ·obtain ⟨q1,m1,q2⟩:=f2 e he hb;exact ⟨q1,hlt _ _ q2⟩
  ·obtain ⟨e,q1,q2,q3⟩:=f3 i hi;refine ⟨e,q1,q2,q3.imp id fun ⟨m1,r1,r2⟩=>?_⟩;obtain ⟨m2,s1,s2⟩:=hin _ (hlt _ _ r1);rw [r1] at s2;cases s2;exact ⟨m1,s1,r2⟩
def Closed (ops:List Oper) (L:Nat→Prop):Prop:=∀ j o,L j→ops[j]?=some o→∀ e∈o.after,Region.binds .any e=true→L e.on
theorem CG {ops:List Oper} {ms:List Nat} (h:pR ops ms) {L:Nat→Prop} (hL:Closed ops L) {j m:Nat} {o:Oper} (ho:ops[j]?=some o) (hm:ms[j]?=some m) (hp:∀ e∈o.after,Region.binds .any e=true→L e.on):∀ i,m.testBit i=true→L i:=by
 obtain ⟨rk,h1,h3⟩:=h;have key:∀ n j,rk j<n→L j→∀ m,ms[j]?=some m→∀ i,m.testBit i=true→L i:=by
  intro n
  induction n with
  | zero=>intro j hj;omega
  | succ n ih=>
    intro j hj hLj m hm i hi;have hjo:j<ops.length:=(by rw [← h1];exact (List.getElem?_eq_some_iff.1 hm).1);obtain ⟨f0,m',e1,e2⟩:=h3 j _ (List.getElem?_eq_getElem hjo);rw [hm] at e1;cases e1;obtain ⟨e,f1,f2,f4⟩:=e2 i hi;have hLe:=hL j _ hLj (List.getElem?_eq_getElem hjo) e f1 f2;have f3:=(f0 e f1 f2).1;rcases f4 with rfl | ⟨m'',g1,g2⟩
    ·exact hLe
    ·exact ih e.on (by omega) hLe m'' g1 i g2
 intro i hi;obtain ⟨_,m',e1,e2⟩:=h3 j o ho;rw [hm] at e1;cases e1;obtain ⟨e,f1,f2,f4⟩:=e2 i hi;have hLe:=hp e f1 f2;rcases f4 with rfl | ⟨m'',g1,g2⟩
 ·exact hLe
 ·exact key (rk e.on+1) e.on (by omega) hLe m'' g1 i g2
def tmpsOf:List Operand→List Nat
 | []=>[]
 | .tmp t::xs=>t::tmpsOf xs
 | _::xs=>tmpsOf xs
theorem rG {t:Nat}:∀ {xs:List Operand},Operand.tmp t∈xs→t∈tmpsOf xs
 | x::xs,h=>by
   rcases List.mem_cons.1 h with rfl | h
   ·simp [tmpsOf]
   ·have:=rG h;cases x<;>simp [tmpsOf,this]
def ahA (all:List Oper) (o:Oper):List Nat:=match o.guard with
 | some (j,_)=>(match all[j]? with | some oj=>(match oj.dst with | some d=>[d] | none=>[]) | none=>[])
 | none=>[]
def iQ (all:List Oper) (o:Oper):List Nat:=tmpsOf (bJ o.op)++ahA all o
def jX (x:Nat):List Nat→Bool
 | []=>false
 | y::l=>match Nat.beq x y with | true=>true | false=>jX x l
theorem fF {x:Nat}:∀ {l:List Nat},jX x l=true↔x∈l
 | []=>by simp [jX]
 | y::l=>by
   unfold jX;split
   ·rename_i h;simp [Nat.eq_of_beq_eq_true h]
   ·rename_i h;have hne:x≠y:=fun e=>by rw [e,Nat.beq_refl] at h;cases h
    rw [fF];simp [hne]
structure Rec where
 k:Nat
 cl:Nat
 back:Nat
 o:Oper
 looks:List Nat
 mask:Nat
def iD (k:Nat) (y:Rec):Bool:=y.mask.testBit k
def Qv:Op→Bool
 | .alloc _=>true
 | .makeMap _ none=>true
 | .buildSlice _ _ _=>true
 | _=>false
def recs (all:List Oper) (ms:List Nat):List DI→Option (List Rec)
 | []=>some []
 | it::its=>match all[it.k]?,ms[it.k]?,recs all ms its with
   | some o,some m,some r=>some (⟨it.k,it.cl,it.back,o,iQ all o,m⟩::r)
   | _,_,_=>none
def Qw (d:Option Nat) (l:List Nat):Bool:=match d with | some d=>jX d l | none=>false
def RF (d d':Option Nat):Bool:=match d,d' with | some d,some d'=>Nat.beq d d' | _,_=>false
def rF (x y:Rec):Bool:=
 (!(Nat.beq x.k y.k))&&((iD x.k y)||(!(Qw x.o.dst y.looks)&&!(RF x.o.dst y.o.dst)&&!(Qw y.o.dst x.looks)))&&((!(Nat.beq y.cl 2))||iD x.k y)&&((!(Nat.beq x.cl 1)&&!(Nat.beq y.cl 1))||!(RF x.o.dst y.o.dst))
def Jg (R:Rec→Rec→Bool):List Rec→Bool
 | []=>true
 | x::r=>r.all (R x)&&Jg R r
def zOk (d:Nat):Option Nat→List Rec→Bool
 | _,[]=>true
 | none,y::r=>if Nat.beq y.cl 2 then zOk d (some y.k) r else !(jX d y.looks)&&zOk d none r
 | some w,y::r=>(!(jX d y.looks)||iD w y)&&zOk d (some w) r
def zn (x:Rec) (rest:List Rec):Bool:=match x.cl with
 | 0=>isQ x.o.op
 | 1=>Qv x.o.op&&x.o.guard.isNone&&(match x.o.dst with | some d=>zOk d none rest&&!(jX d x.looks) | none=>false)
 | _=>true
def iw:List Rec→Bool
 | []=>true
 | x::r=>zn x r&&iw r
def backOk:List Nat→List Rec→Bool
 | _,[]=>true
 | ch,x::r=>(match x.cl with
   | 0=>(match ch[x.back]? with | some k=>iD k x | none=>Nat.beq x.back ch.length)
   | _=>true)&&backOk (match x.cl with | 2=>x.k::ch | _=>ch) r
def yu (n:Nat) (rs:List Rec):Bool:=(List.range n).all fun k=>rs.any fun r=>Nat.beq r.k k
def rO (ops:List Oper) (its:List DI):Bool:=match Kq ops (its.map DI.k) with
 | some ms=>(match recs ops ms its with
   | some rs=>Jg rF rs&&iw rs&&backOk [] rs&&yu ops.length rs
   | none=>false)
 | none=>false
theorem D9 {R:Rec→Rec→Bool}:∀ {l:List Rec},Jg R l=true→∀ (i j:Nat) x y,i<j→l[i]?=some x→l[j]?=some y→R x y=true
 | [],_,i,j,x,y,_,h,_=>by simp at h
 | z::l,h,i,j,x,y,hij,hx,hy=>by
   simp only [Jg,Bool.and_eq_true] at h;cases j with
   | zero=>omega
   | succ j=>
     simp at hy;cases i with
     | zero=>simp at hx;subst hx;exact List.all_eq_true.1 h.1 y (List.mem_of_getElem? hy)
     | succ i=>simp at hx;exact D9 h.2 i j x y (by omega) hx hy
end Go.Sim
