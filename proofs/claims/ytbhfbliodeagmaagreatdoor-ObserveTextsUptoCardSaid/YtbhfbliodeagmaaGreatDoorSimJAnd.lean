/- Sim: maps made, looked up, written. -/
import Derived.Test.YtbhfbliodeagmaaGreatDoorSimIOne
set_option linter.all false
namespace Go.Sim
open Go Go.RowKit
open Go.Abs (TE TK SK TOK TFacts D RdD)
section
variable {P:Program} {T:Nat→TE} {w0:World} {ng:Nat}
theorem wZ {k:TK} {K:Nat→Nat→R} {e r:R} (h:XJ k K e=r) (he:e≠r):∃ a b,k = .map a b∧K a b=r:=by
 cases k<;>first | exact ⟨_,_,rfl,h⟩ | exact absurd h he
theorem Gv {te:TE} {k:V} (h:bH te k=true):te.known=true∧(!te.ks.isEmpty)=true∧fits te.ks (cellsOf k)=true∧asAgg k (fun _=>true) false=te.k.isAgg:=by
 obtain ⟨h1,h2⟩:=aB h
 obtain ⟨h3,h4⟩:=aB h1
 obtain ⟨h5,h6⟩:=aB h2
 refine ⟨h3,h4,h5,?_⟩
 revert h6
 generalize asAgg k (fun _=>true) false=b
 intro h6
 cases b<;>cases h:te.k.isAgg<;>rw [h] at h6<;>first | rfl | cases h6
theorem XY {te:TE} {g:Gh} {n:Nat} {k:V} {u:Value} (h:RV g n k u) (hf:bH te k=true):∃ d:D,(∀ (ok:Nat→Prop) (w:World),RdD ok w u d)∧Abs.bH te d=true∧PDs (cellsOf k) d.cells:=by
 obtain ⟨_,_,h3,h4⟩:=Gv hf
 cases k with
 | agg cs=>
   cases h with
   | agg _ vs q1 q2 q3=>
     have hh:RVL g n cs vs.toList:=⟨by simpa using q1,fun i c v hc hv=>q2 i c v hc (by simpa using hv)⟩
     obtain ⟨ds,p1,p2,p3,p4⟩:=Ce h3 hh
     have hag:te.k.isAgg=true:=h4.symm
     refine ⟨.agg ds,fun ok w => .agg vs ds (by simpa using p3.symm) (fun i c d hc hd=>(p4 i c d (by simpa using hc) hd).2.2 ok w) (fun i v d hv hd=>⟨(p4 i v d (by simpa using hv) hd).2.1,(p4 i v d (by simpa using hv) hd).1⟩),?_,p1⟩
     simp [Abs.bH,D.cells,D.one,p2,hag]
 | _=>
   first
   | (exfalso;simp [cellsOf] at h3;revert h3;cases te.ks<;>simp [fits,iC]<;>done)
   | (have hsingle:RVL g n [_] [u]:=RVL.cons h RVL.nil
      obtain ⟨ds,p1,p2,p3,p4⟩:=Ce (h3:fits te.ks [_]=true) hsingle
      match ds,p3 with
      | [d],_=>
        obtain ⟨r1,r2,r3⟩:=p4 0 u d rfl rfl
        have hag:te.k.isAgg=false:=h4.symm
        have hc:d.cells=[d]:=by cases d<;>first | rfl | (simp [D.one] at r1)
        exact ⟨d,r3,by simp [Abs.bH,hc,r1,p2,hag],by rw [hc];exact p1⟩)
theorem G7:∀ {es:List (D×D)} {k:D} {i:Nat},Abs.oM es k i=none→∀ (j:Nat) e,es[j]?=some e→Abs.aW k.cells e.1.cells=false
 | [],_,_,_,j,e,h=>by simp at h
 | x::es,k,i,hn,j,e,h=>by
   unfold Abs.oM at hn
   split at hn
   ·cases hn
   ·rename_i hx
    cases j with
    | zero=>simp at h;subst h;exact hx
    | succ j=>exact G7 hn j e (by simpa using h)
theorem G6:∀ {es:List (D×D)} {k:D} {i j:Nat} {d:D},Abs.oM es k i=some (i+j,d)→∀ (j':Nat) e,j'<j→es[j']?=some e→Abs.aW k.cells e.1.cells=false
 | [],_,_,_,_,h,_,_,_,_=>by simp [Abs.oM] at h
 | x::es,k,i,j,d,hs,j',e,hj,h=>by
   unfold Abs.oM at hs
   split at hs
   ·simp at hs;omega
   ·rename_i hx
    cases j' with
    | zero=>simp at h;subst h;exact hx
    | succ j'=>exact G6 (i:=i+1) (j:=j-1) (by rw [hs];congr 2;omega) j' e (by omega) (by simpa using h)
theorem xW:∀ {es:List (V×V)} {k:V},(∀ (j:Nat) e,es[j]?=some e→eqV k e.1=false)→G8 es k=none∧(∀ v (K:List (V×V)→R),OT es k v K=K (es++[(k,v)]))∧∀ (K:List (V×V)→R),PZ es k K=K es
 | [],_,_=>⟨rfl,fun _ _=>rfl,fun _=>rfl⟩
 | x::es,k,h=>by
   obtain ⟨h1,h2,h3⟩:=xW (es:=es) (k:=k) fun j e he=>h (j+1) e (by simpa using he)
   have hx:=h 0 x rfl
   refine ⟨?_,fun v K=>?_,fun K=>?_⟩
   ·show aI (eqV k x.1) (some x.2) (G8 es k)=none
    rw [hx];exact h1
   ·show aI (eqV k x.1) (K ((k,v)::es)) (OT es k v fun es=>K (x::es))=_
    rw [hx];exact h2 v _
   ·show aI (eqV k x.1) (K es) (PZ es k fun es=>K (x::es))=_
    rw [hx];exact h3 _
theorem xU:∀ {es:List (V×V)} {k:V} {j:Nat} {e:V×V},es[j]?=some e→eqV k e.1=true→(∀ (j':Nat) e,j'<j→es[j']?=some e→eqV k e.1=false)→G8 es k=some e.2∧(∀ v (K:List (V×V)→R),OT es k v K=K (es.set j (k,v)))∧∀ (K:List (V×V)→R),PZ es k K=K (es.eraseIdx j)
 | [],_,_,_,h,_,_=>by simp at h
 | x::es,k,0,e,h,hk,_=>by
   simp at h
   subst h
   refine ⟨?_,fun v K=>?_,fun K=>?_⟩
   ·show aI (eqV k x.1) (some x.2) (G8 es k)=_
    rw [hk];rfl
   ·show aI (eqV k x.1) (K ((k,v)::es)) (OT es k v fun es=>K (x::es))=_
    rw [hk];rfl
   ·show aI (eqV k x.1) (K es) (PZ es k fun es=>K (x::es))=_
    rw [hk];rfl
 | x::es,k,j+1,e,h,hk,hp=>by
   obtain ⟨h1,h2,h3⟩:=xU (es:=es) (k:=k) (j:=j) (e:=e) (by simpa using h) hk fun j' e hj he=>hp (j'+1) e (by omega) (by simpa using he)
   have hx:=hp 0 x (by omega) rfl
   refine ⟨?_,fun v K=>?_,fun K=>?_⟩
   ·show aI (eqV k x.1) (some x.2) (G8 es k)=_
    rw [hx];exact h1
   ·show aI (eqV k x.1) (K ((k,v)::es)) (OT es k v fun es=>K (x::es))=_
    rw [hx];exact h2 v _
   ·show aI (eqV k x.1) (K es) (PZ es k fun es=>K (x::es))=_
    rw [hx];exact h3 _
theorem zi:∀ (es:List (V×V)) (k:V),(∀ (j:Nat) e,es[j]?=some e→eqV k e.1=false)∨∃ (j:Nat) (e:V×V),es[j]?=some e∧eqV k e.1=true∧∀ (j':Nat) e,j'<j→es[j']?=some e→eqV k e.1=false
 | [],_ => .inl fun j e h=>by simp at h
 | x::es,k=>by
   cases hx:eqV k x.1 with
   | true=>exact .inr ⟨0,x,rfl,hx,fun j' e h=>by omega⟩
   | false=>
     rcases zi es k with h | ⟨j,e,h1,h2,h3⟩
     ·refine .inl fun j e he=>?_
      cases j with
      | zero=>simp at he;subst he;exact hx
      | succ j=>exact h j e (by simpa using he)
     ·refine .inr ⟨j+1,e,by simpa using h1,h2,fun j' e' hj he'=>?_⟩
      cases j' with
      | zero=>simp at he';subst he';exact hx
      | succ j'=>exact h3 j' e' (by omega) (by simpa using he')
theorem RP {te:TE} {g:Gh} {n:Nat}:∀ {es:List (V×V)} {ents:List MapEntry},ents.length=es.length→(∀ (i:Nat) (m:MapEntry) (e:V×V),ents[i]?=some m→es[i]?=some e→RV g n e.1 m.key∧RV g n e.2 m.val)→(∀ e∈es,bH te e.1=true) →
  ∃ ds:List (D×D),ds.length=es.length∧(∀ (i:Nat) (m:MapEntry) d,ents[i]?=some m→ds[i]?=some d→∀ (ok:Nat→Prop) (w:World),RdD ok w m.key d.1)∧(∀ d∈ds,Abs.bH te d.1=true)∧∀ (i:Nat) e d,es[i]?=some e→ds[i]?=some d→PDs (cellsOf e.1) d.1.cells
 | [],_,_,_,_=>⟨[],rfl,fun i m d _ h=>by simp at h,fun d h=>by simp at h,fun i e d h=>by simp at h⟩
 | _::_,[],h,_,_=>by simp at h
 | x::es,m::ents,hl,h,hf=>by
   obtain ⟨ds,h1,h2,h3,h4⟩:=RP (es:=es) (ents:=ents) (by simpa using hl) (fun i m e hm he=>h (i+1) m e (by simpa using hm) (by simpa using he)) fun e he=>hf e (by simp [he])
   obtain ⟨d,d1,d2,d3⟩:=XY (h 0 m x rfl rfl).1 (hf x (by simp))
   refine ⟨(d,d)::ds,by simp [h1],fun i m' d' hm hd=>?_,fun d' hd=>?_,fun i e d' he hd=>?_⟩
   ·cases i with
    | zero=>simp at hm hd;subst hm;subst hd;exact d1
    | succ i=>exact h2 i m' d' (by simpa using hm) (by simpa using hd)
   ·simp at hd
    rcases hd with rfl | hd
    ·exact d2
    ·exact h3 _ hd
   ·cases i with
    | zero=>simp at he hd;subst he;subst hd;exact d3
    | succ i=>exact h4 i e d' (by simpa using he) (by simpa using hd)
theorem xG (hT:TOK P T) {kt:Nat} {g:Gh} {n:Nat} {es:List (V×V)} {ents:Array MapEntry} {k:V} {vk:Value} (w:World) (hl:ents.size=es.length)
  (h:∀ (i:Nat) (m:MapEntry) (e:V×V),ents[i]?=some m→es[i]?=some e→RV g n e.1 m.key∧RV g n e.2 m.val) (hf:∀ e∈es,bH (T kt) e.1=true) (hk:RV g n k vk) (hfk:bH (T kt) k=true) :
  (∀ em,(Instr.checkKey em 10000 kt vk).run P w = .ok () w) ∧
  (((Instr.findKey kt vk ents.toList).run P w = .ok none w∧∀ (j:Nat) e,es[j]?=some e→eqV k e.1=false) ∨
    ∃ (j:Nat) (m:MapEntry) (e:V×V),(Instr.findKey kt vk ents.toList).run P w = .ok (some (j,m.val)) w∧ents[j]?=some m∧es[j]?=some e∧eqV k e.1=true∧(∀ (j':Nat) e,j'<j→es[j']?=some e→eqV k e.1=false)∧(Instr.keyThatStays m.key vk).run P w = .ok vk w):=by
 obtain ⟨f1,f2,f3,f4⟩:=Gv hfk
 have hKT:=hT.lH f1 f2
 obtain ⟨kd,k1,k2,k3⟩:=XY hk hfk
 obtain ⟨ds,d1,d2,d3,d4⟩:=RP (te:=T kt) (es:=es) (ents:=ents.toList) (by simpa using hl) (fun i m e hm he=>h i m e (by simpa using hm) he) hf
 have heq:∀ (j:Nat) e d,es[j]?=some e→ds[j]?=some d→eqV k e.1=Abs.aW kd.cells d.1.cells:=fun j e d he hd=>by
  refine IL k3 (d4 j e d he hd) ?_
  obtain ⟨a1,_⟩:=Abs.dY k2
  obtain ⟨b1,_⟩:=Abs.dY (d3 d (List.mem_of_getElem? hd))
  rw [k3.length_eq,(d4 j e d he hd).length_eq,Abs.dn a1,Abs.dn b1]
 have hdat:∀ (j:Nat) e,es[j]?=some e→∃ d,ds[j]?=some d:=fun j e he=>by
  have:j<ds.length:=by rw [d1];exact (List.getElem?_eq_some_iff.1 he).1
  exact ⟨_,List.getElem?_eq_getElem this⟩
 have hl2:ents.toList.length=ds.length:=by rw [d1];simpa using hl
 have hfk':=Abs.kD (P:=P) (ok:=fun _=>True) (w:=w) hKT (k1 _ w) k2 ents.toList ds hl2 (fun j m e hm he=>d2 j m e hm he _ w) d3
 refine ⟨fun em=>Abs.nJ (ok:=fun _=>True) hKT (k1 _ w) k2 em,?_⟩
 rcases Abs.iG (P:=P) (ok:=fun _=>True) (w:=w) hKT (k1 _ w) k2 ents.toList ds 0 hl2 (fun j m e hm he=>d2 j m e hm he _ w) d3 with ⟨q1,q2,_,_⟩ | ⟨j,m,d,q1,q2,q3,q4,q5,_,_⟩
 ·refine .inl ⟨hfk'.trans q1,fun j e he=>?_⟩
  obtain ⟨d,hd⟩:=hdat j e he
  rw [heq j e d he hd]
  exact G7 q2 j d hd
 ·have hj:j<es.length:=by rw [← d1];exact (List.getElem?_eq_some_iff.1 q3).1
  have he:es[j]?=some es[j]:=List.getElem?_eq_getElem hj
  refine .inr ⟨j,m,es[j],?_,by simpa using q2,he,by rw [heq j _ d he q3];exact q5,fun j' e hj' he'=>?_,Abs.run_keyThatStays (ok:=fun _=>True) (k1 _ w) (d2 j m d q2 q3 _ w) k2 (d3 d (List.mem_of_getElem? q3)) q5⟩
  ·rw [hfk',q1,Nat.zero_add]
  ·obtain ⟨d',hd'⟩:=hdat j' e he'
   rw [heq j' e d' he' hd']
   exact G6 q4 j' d' hj' hd'
theorem Fe {ng:Nat} (w:World) (r:Nat) (o:Go.Obj):Like ng w (Abs.bQ w r o):=⟨rfl,rfl,rfl,by simp [Abs.bQ],fun _=>Nat.le_refl _⟩
theorem MS {o:Oper} {t:Nat} (ho:o.op = .makeMap t none):HOK P T w0 ng o (Dw t):=by
 intro call _ vals hh nx K r hr h
 obtain ⟨kt,et,hk,k1⟩:=wZ h (hr _)
 rw [B.eP,B.Jl] at k1
 refine ⟨_,_,_,k1,.of_run fun g hp ρ w g1 g2 g3=>?_⟩
 have st:=Step.new (T:=T) (w0:=w0) (ng:=ng) g1 g2 (jl w (.map #[] 0)) (n:=0) (o := .map kt []) (fun b hb=>heap_alloc_old w _ b hb) ⟨#[],0,by simp only [dR,if_true];exact heap_alloc_new w _,rfl,fun i m e hm=>by simp at hm,⟨fun e he=>by simp at he,by simp [Stamped]⟩⟩
 refine ⟨_,_,_,_,.inl (by simp [execOp,ho,Instr.makeMap,newObj,Sem.run];rfl),st,?_⟩
 have:=RV.map (g:=dR g nx ⟨w.heap.size,0,0⟩) (n:=nx.inc.num) nx (by rw [B.gV];omega)
 simpa [dR] using this
def XL (ok:Bool) (r0:Option V) (z:V):V:=match ok with | true => .tup [r0.getD z,.bool r0.isSome] | false=>r0.getD z
theorem Me {ok:Bool} {r0:Option V} {z:V} {K:V→R} {r:R} (h:XM ok r0 z K=r):K (XL ok r0 z)=r:=by
 cases ok<;>cases r0<;>exact h
theorem Iy {g:Gh} {n:Nat} {v:V} {u:Value} (h:RV g n v u) {r0:Option V} {z:V} {b:Bool} (h1:r0.getD z=v) (h2:r0.isSome=b) (ok:Bool):RV g n (XL ok r0 z) (if ok then .tuple #[u,.bool b] else u):=by
 unfold XL
 rw [h1,h2]
 cases ok with
 | false=>exact h
 | true=>
   refine .tup _ _ rfl fun i c x hc hx=>?_
   match i with
   | 0=>simp at hc hx;subst hc;subst hx;exact h
   | 1=>simp at hc hx;subst hc;subst hx;exact .bool b
   | i+2=>simp at hc
theorem Dx (hT:TOK P T) {o:Oper} {t:Nat} {x y:Operand} {ok:Bool} (ho:o.op = .lookup t x y ok):HQ P T w0 ng o (Sv t ok):=by
 intro call _ vals hh nx K r hr h
 obtain ⟨kt,et,hk,k1⟩:=wZ h (hr _)
 obtain ⟨m,k,rfl,k2⟩:=mV k1 (hr _)
 obtain ⟨hb,k3⟩:=aG k2 (hr _)
 obtain ⟨hfk,hke⟩:=aB hb
 have hu:=hT.map hk
 obtain ⟨d,i,hfe⟩:=hT.facts (Abs.TE.aK hke)
 have hzero:∀ w,(zeroValue et).run P w = .ok (T et).zero w:=fun w=>by simp [zeroValue,typeInfo,hfe.info,hfe.zero]
 rcases NS k3 with ⟨id,rfl,k4⟩ | ⟨_,k4⟩
 ·obtain ⟨kt',es,hg,k5⟩:=yc k4 (hr _)
  obtain ⟨hkk,k6⟩:=aG k5 (hr _)
  have hkk:=beq_iff.1 hkk
  subst hkk
  refine ⟨_,Me k6,fun g hp ρ w g1 g2 g3=>?_⟩
  obtain ⟨hx,hy⟩:=qE (x:=x) (y:=y) (by simp [ho,Op.operands]) g3
  generalize hvx:ρ x=vx at hx
  cases hx
  obtain ⟨_,ents,clock,e1,e2,e3,e4,_⟩:=g1.obj _ _ (g2 _ _ hg)
  obtain ⟨hck,hfind⟩:=xG (P:=P) hT w e2 e3 e4 hy hfk
  rcases hfind with ⟨q1,q2⟩ | ⟨j,me,e,q1,q2,q3,q4,q5,_⟩
  ·obtain ⟨r1,_,_⟩:=xW q2
   rw [r1]
   refine ⟨if ok then .tuple #[(T et).zero,.bool false] else (T et).zero,?_,Iy (tZ g nx.num (T et).zero) rfl rfl ok⟩
   cases ok<;>simp [execOp,ho,hvx,Instr.lookup,run_underlying hu,hck,q1,hzero,Go.MapKept.run_getObj_map e1]
  ·obtain ⟨r1,_,_⟩:=xU q3 q4 q5
   rw [r1]
   refine ⟨if ok then .tuple #[me.val,.bool true] else me.val,?_,Iy (e3 j me e q2 q3).2 rfl rfl ok⟩
   cases ok<;>simp [execOp,ho,hvx,Instr.lookup,run_underlying hu,hck,q1,Go.MapKept.run_getObj_map e1]
 ·obtain ⟨rfl,k5⟩:=Gx k4 (hr _)
  refine ⟨_,Me k5,fun g hp ρ w g1 g2 g3=>?_⟩
  obtain ⟨hx,hy⟩:=qE (x:=x) (y:=y) (by simp [ho,Op.operands]) g3
  generalize hvx:ρ x=vx at hx
  cases hx
  obtain ⟨hck,hfind⟩:=xG (P:=P) hT (es:=[]) (ents:=#[]) w rfl (fun i m e hm=>by simp at hm) (fun e he=>by simp at he) hy hfk
  rcases hfind with ⟨q1,_⟩ | ⟨j,me,e,_,q2,_⟩
  ·refine ⟨if ok then .tuple #[(T et).zero,.bool false] else (T et).zero,?_,Iy (tZ g nx.num (T et).zero) rfl rfl ok⟩
   have q1':(Instr.findKey kt (ρ y) []).run P w = .ok none w:=q1
   cases ok<;>simp [execOp,ho,hvx,Instr.lookup,run_underlying hu,hck,q1',hzero]
  ·simp at q2
theorem Stamped.push {ents:Array MapEntry} {clock:Nat} (h:Stamped ents clock) {m:MapEntry} (hm:m.born=clock):Stamped (ents.push m) (clock+1):=by
 refine ⟨fun x hx=>?_,?_⟩
 ·rw [Array.toList_push] at hx
  rcases List.mem_append.1 hx with hx | hx
  ·exact Nat.lt_succ_of_lt (h.1 x hx)
  ·simp at hx;subst hx;omega
 ·rw [Array.toList_push,List.map_append]
  refine List.nodup_append.2 ⟨h.2,by simp,fun a ha b hb=>?_⟩
  obtain ⟨x,hx,rfl⟩:=List.mem_map.1 ha
  simp at hb
  subst hb
  have:=h.1 x hx
  omega
theorem Stamped.ab2 {ents ents':Array MapEntry} {clock:Nat} (h:Stamped ents clock) (hb:ents'.toList.map (·.born)=ents.toList.map (·.born)):Stamped ents' clock:=by
 refine ⟨fun x hx=>?_,by rw [hb];exact h.2⟩
 have:x.born∈ents'.toList.map (·.born):=List.mem_map.2 ⟨x,hx,rfl⟩
 rw [hb] at this
 obtain ⟨y,hy,e⟩:=List.mem_map.1 this
 rw [← e]
 exact h.1 y hy
theorem NQ (ents:Array MapEntry) (j:Nat) (f:MapEntry→MapEntry) (hf:∀ m,(f m).born=m.born):(ents.modify j f).toList.map (·.born)=ents.toList.map (·.born):=by
 apply List.ext_getElem?
 intro i
 simp only [List.getElem?_map,Array.getElem?_toList,Array.getElem?_modify]
 split
 ·cases ents[i]?<;>simp [hf]
 ·rfl
theorem Stamped.erase {ents ents':Array MapEntry} {clock j:Nat} (h:Stamped ents clock) (he:ents'.toList=ents.toList.eraseIdx j):Stamped ents' clock:=by
 refine ⟨fun x hx=>h.1 x (by rw [he] at hx;exact List.mem_of_mem_eraseIdx hx),?_⟩
 rw [he]
 exact List.Nodup.sublist (List.Sublist.map _ (List.eraseIdx_sublist _ _)) h.2
theorem wY {g:Gh} {hp:B→Option Obj} {t:Tr Obj} {nx:B} {w:World} (h:HR T w0 ng g hp nx w) (hs:Sub t hp) {id:B} {kt:Nat} {es es':List (V×V)} (hg:id.get t=some (.map kt es)) {ents':Array MapEntry} (clock':Nat)
  (hl:ents'.size=es'.length) (hr:∀ (i:Nat) (m:MapEntry) (e:V×V),ents'[i]?=some m→es'[i]?=some e→RV g nx.num e.1 m.key∧RV g nx.num e.2 m.val) (hf:∀ e∈es',bH (T kt) e.1=true) (hst:Stamped ents' clock') :
  Step T w0 ng g hp t nx w g (fA hp id (some (.map kt es'))) (id.put t (some (.map kt es'))) nx (Abs.bQ w (g id).b (.map ents' clock')):=by
 have ho:=(h.obj id _ (hs id _ hg)).2.blk
 exact .write h hs (Fe _ _ _) hg rfl (fun b hb=>Abs.eY w _ b _ hb) ⟨ents',clock',Abs.uh w _ _ ho,hl,hr,hf,hst⟩
theorem um (hT:TOK P T) {o:Oper} {t:Nat} {x y z:Operand} (ho:o.op = .mapUpdate t x y z∨o.op = .insert t x y z):HOK P T w0 ng o (vN t):=by
 intro call _ vals hh nx K r hr h
 obtain ⟨kt,et,hk,k1⟩:=wZ h (hr _)
 obtain ⟨m,k,v,rfl,k2⟩:=RJ k1 (hr _)
 obtain ⟨hfk,k3⟩:=aG k2 (hr _)
 obtain ⟨id,rfl,k4⟩:=EL k3 (hr _)
 obtain ⟨kt',es,hg,k5⟩:=yc k4 (hr _)
 obtain ⟨hkk,k6⟩:=aG k5 (hr _)
 have hkk:=beq_iff.1 hkk
 subst hkk
 have hu:=hT.map hk
 have key:∃ es',OT es k v (fun es=>id.jQ hh (some (.map kt es)) fun t'=>K .any t' nx)=(fun es=>id.jQ hh (some (.map kt es)) fun t'=>K .any t' nx) es' ∧
   (((∀ (j:Nat) e,es[j]?=some e→eqV k e.1=false)→es'=es++[(k,v)])∧∀ (j:Nat) e,es[j]?=some e→eqV k e.1=true→(∀ (j':Nat) e,j'<j→es[j']?=some e→eqV k e.1=false)→es'=es.set j (k,v)):=by
  rcases zi es k with hA | ⟨j0,e0,p1,p2,p3⟩
  ·exact ⟨_,(xW hA).2.1 v _,fun _=>rfl,fun j e he hb _=>by rw [hA j e he] at hb;cases hb⟩
  ·refine ⟨_,(xU p1 p2 p3).2.1 v _,fun hA=>?_,fun j e he hb hp=>?_⟩
   ·rw [hA j0 e0 p1] at p2;cases p2
   ·rcases Nat.lt_trichotomy j j0 with h | h | h
    ·rw [p3 j e h he] at hb;cases hb
    ·rw [h]
    ·rw [hp j0 e0 h p1] at p2;cases p2
 obtain ⟨es',c1,c2,c3⟩:=key
 rw [c1] at k6
 simp only [B.eP] at k6
 refine ⟨_,_,_,k6,.of_run fun g hp ρ w g1 g2 g3=>?_⟩
 obtain ⟨hx,hy,hz⟩:=akw (x:=x) (y:=y) (z:=z) (by rcases ho with ho | ho<;>simp [ho,Op.operands]) g3
 generalize hvx:ρ x=vx at hx
 cases hx
 obtain ⟨_,ents,clock,e1,e2,e3,e4,e5⟩:=g1.obj _ _ (g2 _ _ hg)
 obtain ⟨hck,hfind⟩:=xG (P:=P) hT w e2 e3 e4 hy hfk
 have hex:∀ w',(Instr.mapUpdate t (.map (some (g id).b)) (ρ y) (ρ z)).run P w = .ok () w'→(execOp ρ o).run P w = .ok .skip w':=fun w' hrun=>by
  rcases ho with ho | ho<;>simp [execOp,ho,hvx,hrun]
 rcases hfind with ⟨q1,q2⟩ | ⟨j,me,e,q1,q2,q3,q4,q5,q6⟩
 ·have c2:=c2 q2
  subst c2
  have st:=wY (T:=T) (w0:=w0) (ng:=ng) g1 g2 hg (es':=es++[(k,v)]) (ents':=ents.push { key:=ρ y,val:=ρ z,born:=clock }) (clock+1) (by simp [e2]) (fun i m e hm he=>by
   rcases Nat.lt_or_ge i ents.size with hi | hi
   ·rw [Array.getElem?_push,if_neg (by omega)] at hm
    rw [List.getElem?_append_left (by omega)] at he
    exact e3 i m e hm he
   ·have hie:i=ents.size:=by
     have:=(Array.getElem?_eq_some_iff.1 hm).1
     simp at this;omega
    subst hie
    rw [e2,List.getElem?_append_right (Nat.le_refl _)] at he
    simp at hm he
    subst hm;subst he
    exact ⟨hy,hz⟩) (fun e he=>by
   simp at he
   rcases he with he | rfl
   ·exact e4 e he
   ·exact hfk) (e5.push rfl)
  exact ⟨undef,_,_,_,.inr ⟨hex _ (by simp [Instr.mapUpdate,run_underlying hu,Go.MapKept.run_getObj_map e1,hck,q1,Go.MapKept.run_setObj_map _ e1,Abs.bQ]),rfl⟩,st,.any _⟩
 ·have c3:=c3 j e q3 q4 q5
  subst c3
  have hj:j<ents.size:=(Array.getElem?_eq_some_iff.1 q2).1
  have st:=wY (T:=T) (w0:=w0) (ng:=ng) g1 g2 hg (es':=es.set j (k,v)) (ents':=ents.modify j fun e=>{ e with key:=ρ y,val:=ρ z }) clock (by simp [e2]) (fun i m' e' hm he=>by
   by_cases hij:j=i
   ·subst hij
    rw [List.getElem?_set_self (by omega)] at he
    rw [Array.getElem?_modify,if_pos rfl,q2] at hm
    simp at he hm
    subst hm;subst he
    exact ⟨hy,hz⟩
   ·rw [List.getElem?_set_ne hij] at he
    rw [Array.getElem?_modify,if_neg hij] at hm
    exact e3 i m' e' hm he) (fun e he=>by
   rcases List.mem_or_eq_of_mem_set he with he | rfl
   ·exact e4 e he
   ·exact hfk) (e5.ab2 (NQ ents j _ fun _=>rfl))
  exact ⟨undef,_,_,_,.inr ⟨hex _ (by simp [Instr.mapUpdate,run_underlying hu,Go.MapKept.run_getObj_map e1,hck,q1,q2,q6,Go.MapKept.run_setObj_map _ e1,Abs.bQ]),rfl⟩,st,.any _⟩
theorem PE (hT:TOK P T) {o:Oper} {t t':Nat} {x y:Operand} (ho:o.op = .call { callee := .builtin .delete,args:=#[x,y],argTypes:=#[t,t'] }):HOK P T w0 ng o (SB t):=by
 intro call _ vals hh nx K r hr h
 obtain ⟨kt,et,hk,k1⟩:=wZ h (hr _)
 obtain ⟨m,k,rfl,k2⟩:=mV k1 (hr _)
 obtain ⟨hfk,k3⟩:=aG k2 (hr _)
 obtain ⟨id,rfl,k4⟩:=EL k3 (hr _)
 obtain ⟨kt',es,hg,k5⟩:=yc k4 (hr _)
 obtain ⟨hkk,k6⟩:=aG k5 (hr _)
 have hkk:=beq_iff.1 hkk
 subst hkk
 have hu:=hT.map hk
 have key:∃ es',PZ es k (fun es=>id.jQ hh (some (.map kt es)) fun t'=>K .any t' nx)=(fun es=>id.jQ hh (some (.map kt es)) fun t'=>K .any t' nx) es' ∧
   (((∀ (j:Nat) e,es[j]?=some e→eqV k e.1=false)→es'=es)∧∀ (j:Nat) e,es[j]?=some e→eqV k e.1=true→(∀ (j':Nat) e,j'<j→es[j']?=some e→eqV k e.1=false)→es'=es.eraseIdx j):=by
  rcases zi es k with hA | ⟨j0,e0,p1,p2,p3⟩
  ·exact ⟨_,(xW hA).2.2 _,fun _=>rfl,fun j e he hb _=>by rw [hA j e he] at hb;cases hb⟩
  ·refine ⟨_,(xU p1 p2 p3).2.2 _,fun hA=>?_,fun j e he hb hp=>?_⟩
   ·rw [hA j0 e0 p1] at p2;cases p2
   ·rcases Nat.lt_trichotomy j j0 with h | h | h
    ·rw [p3 j e h he] at hb;cases hb
    ·rw [h]
    ·rw [hp j0 e0 h p1] at p2;cases p2
 obtain ⟨es',c1,c2,c3⟩:=key
 rw [c1] at k6
 simp only [B.eP] at k6
 refine ⟨_,_,_,k6,.of_run fun g hp ρ w g1 g2 g3=>?_⟩
 obtain ⟨hx,hy⟩:=qE (x:=x) (y:=y) (by simp [ho,Op.operands,Call.operands]) g3
 generalize hvx:ρ x=vx at hx
 cases hx
 obtain ⟨_,ents,clock,e1,e2,e3,e4,e5⟩:=g1.obj _ _ (g2 _ _ hg)
 obtain ⟨hck,hfind⟩:=xG (P:=P) hT w e2 e3 e4 hy hfk
 rcases hfind with ⟨q1,q2⟩ | ⟨j,me,e,q1,q2,q3,q4,q5,q6⟩
 ·have c2:=c2 q2
  subst c2
  have st:=wY (T:=T) (w0:=w0) (ng:=ng) g1 g2 hg (es':=es') (ents':=ents) clock e2 e3 e4 e5
  refine ⟨.tuple #[],_,_,_,.inl ?_,st,.any _⟩
  simp [execOp,ho,resolve,invoke,builtin,Builtin.delete_,hvx,run_underlying hu,Go.MapKept.run_getObj_map e1,hck,q1,Go.MapKept.run_setObj_map _ e1,Abs.bQ]
 ·have c3:=c3 j e q3 q4 q5
  subst c3
  have hj:j<ents.size:=(Array.getElem?_eq_some_iff.1 q2).1
  have hdel:(ents.eraseIdxIfInBounds j).toList=ents.toList.eraseIdx j:=by unfold Array.eraseIdxIfInBounds;rw [dif_pos hj];exact Array.toList_eraseIdx
  have st:=wY (T:=T) (w0:=w0) (ng:=ng) g1 g2 hg (es':=es.eraseIdx j) (ents':=ents.eraseIdxIfInBounds j) clock (by
    rw [← Array.length_toList,hdel,List.length_eraseIdx,List.length_eraseIdx]
    simp only [Array.length_toList,e2]) (fun i m' e' hm he'=>by
    have hm2:(ents.toList.eraseIdx j)[i]?=some m':=by rw [← hdel,Array.getElem?_toList];exact hm
    rw [List.getElem?_eraseIdx] at hm2 he'
    split at hm2
    ·rename_i h1;rw [if_pos h1] at he';exact e3 i m' e' (by simpa using hm2) he'
    ·rename_i h1;rw [if_neg h1] at he';exact e3 (i+1) m' e' (by simpa using hm2) he') (fun e he=>e4 e (List.mem_of_mem_eraseIdx he)) (e5.erase hdel)
  refine ⟨.tuple #[],_,_,_,.inl ?_,st,.any _⟩
  simp [execOp,ho,resolve,invoke,builtin,Builtin.delete_,hvx,run_underlying hu,Go.MapKept.run_getObj_map e1,hck,q1,Go.MapKept.run_setObj_map _ e1,Abs.bQ]
end
end Go.Sim
namespace Go.Sim
open Go Go.RowKit
open Go.Abs (TE TK SK TOK TFacts)
section
variable {P:Program} {T:Nat→TE} {w0:World} {ng:Nat}
theorem gZ {o:Oper} (n:Nat):HOK P T w0 ng o (Nb n):=fun _ _ _ _ _ _ _ hr h=>absurd h (hr _)
theorem qP {o:Oper} (n:Nat):HQ P T w0 ng o (Nb n):=fun _ _ _ _ _ _ _ hr h=>absurd h (hr _)
theorem aiB {f:FR} {K:V→Tr Obj→B→R} {r:R} (h:frK f R.bad K=r) (hr:∀ n,R.bad n≠r):∃ v t nx,f = .ret v t nx∧K v t nx=r:=by
 cases f with
 | bad n=>exact absurd h (hr n)
 | ret v t nx=>exact ⟨v,t,nx,rfl,h⟩
theorem RVL.split {g:Gh} {n:Nat} {c:V} {cs:List V} {l:List Operand} {ρ:Operand→Value} {f:Operand} (h:RVL g n (c::cs) ((f::l).map ρ)):RV g n c (ρ f)∧RVL g n cs (l.map ρ):=by
 obtain ⟨v,vs,e,h1,h2⟩:=h.inv
 simp only [List.map_cons,List.cons.injEq] at e
 rw [e.1,e.2]
 exact ⟨h1,h2⟩
theorem YM {o:Oper} {fv:Operand} {as:Array Operand} {tys:Array TypeId} (ho:o.op = .call { callee := .value fv,args:=as,argTypes:=tys }):HOK P T w0 ng o YN:=by
 intro call hcall vals hh nx K r hr h
 obtain ⟨vf,vs,rfl,k1⟩:=RI h (hr _)
 obtain ⟨f,fs,cs,rfl,k2⟩:=yg k1 (hr _)
 obtain ⟨v,t',nx',k3,k4⟩:=aiB k2 hr
 refine ⟨v,t',nx',k4,fun g hp a w hw hs hv K' Q hK'=>?_⟩
 have hcm:=hcall f _ _ _ _ _ _ k3
 have hops:o.op.operands.toList=fv::as.toList:=by simp [ho,Op.operands,Call.operands]
 rw [hops] at hv
 obtain ⟨hf,hargs⟩:=hv.split
 generalize hvf:a.eval fv=vfv at hf
 cases hf with
 | fn _ _ _ xf xc q1 q2 q3 q4=>
   have hfs:RVL g nx.num fs xf.toList:=⟨by simpa using q1,fun i c v hc hv=>q2 i c v hc (by simpa using hv)⟩
   have hcs:RVL g nx.num cs xc.toList:=⟨by simpa using q3,fun i c v hc hv=>q4 i c v hc (by simpa using hv)⟩
   have hall:=hfs.append (hargs.append hcs)
   have harr:(xf.toList++(as.toList.map a.eval++xc.toList)).toArray=(xf++as.map a.eval)++xc:=by
    apply Array.ext'
    simp
   unfold Oper.wp
   rcases hcm with ⟨⟨fn,e1,e2,e3⟩,hc⟩ | ⟨rfl,rfl,_,hc⟩
   ·have hcc:=hc g hp w _ hw hs hall
    rw [harr] at hcc
    have hrun:(execOp a.eval o).run P w = .ok (.enter f ((xf++as.map a.eval)++xc)) w:=by
     have e3':fn.body≠none:=by intro e;rw [e] at e3;cases e3
     have e2':¬ fn.name = "runtime.NumGoroutine" := by simpa using e2
     simp [execOp,ho,resolve,hvf,Deferred.ofValue,invoke,callFunc,e1,e2',e3']
    rw [hrun]
    refine hcc.mono fun e w' ⟨g',hp',val,he,hst,hrv⟩=>?_
    subst he
    exact hK' g' hp' val w' hst hrv
   ·obtain ⟨val,hv1,hv2⟩:=hc g hp w _ hw hs hall
    rw [harr] at hv1
    have hrun:(execOp a.eval o).run P w = .ok (.value val) w:=by
     simp only [execOp,ho,resolve,hvf,Deferred.ofValue,invoke]
     simpa using hv1
    rw [hrun]
    exact hK' g hp val w (.refl hw hs) hv2
theorem CG (hT:TOK P T) (o:Oper):HOK P T w0 ng o (opH o.op ng):=by
 generalize hop:o.op=op
 cases op<;>try exact gZ 111
 case move x=>exact (xA (.inl hop)).ok
 case assign x=>exact (xA (.inr hop)).ok
 case pick c a b=>exact (MR hop).ok
 case alloc t=>exact Vy hT hop
 case box t x=>exact acC hop
 case build t ps=>exact (GY hT hop).ok
 case buildSlice t len ps=>exact DF hT hop
 case load t x=>exact (MW hT hop).ok
 case store t x y=>exact Vu hT hop
 case nilCheck x=>exact (xw hop).ok
 case binOp op t x y ty=>exact (SE hT hop).ok
 case unOp op t x=>exact (YG hop).ok
 case convert src dst x=>exact (Na hT hop).ok
 case makeFunc f first captured=>
  cases f<;>try exact gZ 111
  exact (xB hop).ok
 case makeSlice t l c=>exact Fh hT hop
 case fieldAddr t x f=>exact (uq hT hop).ok
 case field t x f=>exact (GX hT hop).ok
 case indexAddr t x y=>exact (uo hT hop).ok
 case index t x y=>exact (GV hT hop).ok
 case extract x i=>exact (zN hop).ok
 case slice t x lo hi mx=>exact (GR hT hop).ok
 case makeMap t r=>
  cases r with
  | none=>exact MS hop
  | some r=>exact gZ 111
 case lookup t x y c=>exact (Dx hT hop).ok
 case mapUpdate t m k v=>exact um hT (.inl hop)
 case insert t m k v=>exact um hT (.inr hop)
 case waits g=>exact (GN hop).ok
 case call c=>
  obtain ⟨callee,⟨as⟩,⟨tys⟩⟩:=c
  cases callee<;>try exact gZ 110
  case value f=>exact YM hop
  case builtin b=>
   have hop':o.op = .call { callee := .builtin b,args:=⟨as⟩,argTypes:=⟨tys⟩ }:=hop
   cases b<;>try exact gZ 110
   case len=>
    match as,tys,hop' with
    | [x],[t],hop'=>exact (Sz hT hop').ok
    | [],_,_ | _::_::_,_,_ | [_],[],_ | [_],_::_::_,_=>exact gZ 110
   case cap=>
    match as,tys,hop' with
    | [x],[t],hop'=>exact (SC hT hop').ok
    | [],_,_ | _::_::_,_,_ | [_],[],_ | [_],_::_::_,_=>exact gZ 110
   case append=>
    match as,tys,hop' with
    | [x,y],[t,t'],hop'=>exact Nc hT hop'
    | [],_,_ | [_],_,_ | _::_::_::_,_,_ | [_,_],[],_ | [_,_],[_],_ | [_,_],_::_::_::_,_=>exact gZ 110
   case copy=>
    match as,tys,hop' with
    | [x,y],[t,t'],hop'=>exact YK hT hop'
    | [],_,_ | [_],_,_ | _::_::_::_,_,_ | [_,_],[],_ | [_,_],[_],_ | [_,_],_::_::_::_,_=>exact gZ 110
   case clear=>
    match as,tys,hop' with
    | [x],[t],hop'=>exact Vx hT hop'
    | [],_,_ | _::_::_,_,_ | [_],[],_ | [_],_::_::_,_=>exact gZ 110
   case delete=>
    match as,tys,hop' with
    | [x,y],[t,t'],hop'=>exact PE hT hop'
    | [],_,_ | [_],_,_ | _::_::_::_,_,_ | [_,_],[],_ | [_,_],[_],_ | [_,_],_::_::_::_,_=>exact gZ 110
   case max=>
    match as,hop' with
    | [x,y],hop'=>exact (AY (mx:=true) hop').ok
    | [],_ | [_],_ | _::_::_::_,_=>exact gZ 110
   case min=>
    match as,hop' with
    | [x,y],hop'=>exact (AY (mx:=false) hop').ok
    | [],_ | [_],_ | _::_::_::_,_=>exact gZ 110
theorem adx (hT:TOK P T) (o:Oper) (hq:isQ o.op=true):HQ P T w0 ng o (opH o.op ng):=by
 generalize hop:o.op=op
 rw [hop] at hq
 cases op<;>try exact qP 111
 case alloc=>cases hq
 case box=>cases hq
 case buildSlice=>cases hq
 case store=>cases hq
 case makeSlice=>cases hq
 case makeMap=>cases hq
 case mapUpdate=>cases hq
 case insert=>cases hq
 case move x=>exact xA (.inl hop)
 case assign x=>exact xA (.inr hop)
 case pick c a b=>exact MR hop
 case build t ps=>exact GY hT hop
 case load t x=>exact MW hT hop
 case nilCheck x=>exact xw hop
 case binOp op t x y ty=>exact SE hT hop
 case unOp op t x=>exact YG hop
 case convert src dst x=>exact Na hT hop
 case makeFunc f first captured=>
  cases f<;>try exact qP 111
  exact xB hop
 case fieldAddr t x f=>exact uq hT hop
 case field t x f=>exact GX hT hop
 case indexAddr t x y=>exact uo hT hop
 case index t x y=>exact GV hT hop
 case extract x i=>exact zN hop
 case slice t x lo hi mx=>exact GR hT hop
 case lookup t x y c=>exact Dx hT hop
 case waits g=>exact GN hop
 case call c=>
  obtain ⟨callee,⟨as⟩,⟨tys⟩⟩:=c
  cases callee<;>try exact qP 110
  case value f=>cases hq
  case builtin b=>
   have hop':o.op = .call { callee := .builtin b,args:=⟨as⟩,argTypes:=⟨tys⟩ }:=hop
   cases b<;>try exact qP 110
   case append=>cases hq
   case copy=>cases hq
   case clear=>cases hq
   case delete=>cases hq
   case len=>
    match as,tys,hop' with
    | [x],[t],hop'=>exact Sz hT hop'
    | [],_,_ | _::_::_,_,_ | [_],[],_ | [_],_::_::_,_=>exact qP 110
   case cap=>
    match as,tys,hop' with
    | [x],[t],hop'=>exact SC hT hop'
    | [],_,_ | _::_::_,_,_ | [_],[],_ | [_],_::_::_,_=>exact qP 110
   case max=>
    match as,hop' with
    | [x,y],hop'=>exact AY (mx:=true) hop'
    | [],_ | [_],_ | _::_::_::_,_=>exact qP 110
   case min=>
    match as,hop' with
    | [x,y],hop'=>exact AY (mx:=false) hop'
    | [],_ | [_],_ | _::_::_::_,_=>exact qP 110
end
theorem oG (op:Op):op.operands.toList=bC op:=by
 cases op<;>simp [bC,Op.operands]
 case call c=>
  obtain ⟨callee,⟨as⟩,tys⟩:=c
  cases callee<;>simp [Call.operands]
structure AR (ds:List Deferred) (g:Gh) (n:Nat) (nt:Nat) (env:Tr V) (a:Act):Prop where
 defers:a.defers=ds
 size:a.tmps.size=nt
 env:∀ t v,(bOf t).get env=some v→RV g n v (a.tmps.getD t Go.undef)
theorem AR.mono {ds:List Deferred} {g g':Gh} {n n' nt:Nat} {env:Tr V} {a:Act} (he:Ext g g' n) (hn:n≤n') (h:AR ds g n nt env a):AR ds g' n' nt env a:=⟨h.defers,h.size,fun t v hv=>(h.env t v hv).mono he hn⟩
noncomputable def ug (dst:Option Tmp) (env:Tr V) (v:V):Tr V:=match dst with | none=>env | some d=>(bOf d).put env (some v)
theorem Qz {R:Type} (dst:Option Tmp) (env:Tr V) (v:V) (K:Tr V→R):wO dst env v K=K (ug dst env v):=by
 cases dst with
 | none=>rfl
 | some d=>exact B.eP _ _ _ _
theorem AR.put {ds:List Deferred} {g:Gh} {n nt:Nat} {env:Tr V} {a:Act} (h:AR ds g n nt env a) {dst:Option Tmp} (hd:∀ d,dst=some d→d<nt) {v:V} {u:Value} (hv:RV g n v u):AR ds g n nt (ug dst env v) (a.put dst u):=by
 cases dst with
 | none=>exact h
 | some d=>
   have hd:=hd d rfl
   refine ⟨h.defers,by simp [Act.put,h.size],fun t x hx=>?_⟩
   simp only [ug,B.get_put] at hx
   by_cases e:bOf t=bOf d
   ·have e':=ni e
    subst e'
    rw [if_pos e] at hx
    simp at hx
    subst hx
    have:(a.put (some t) u).tmps.getD t Go.undef=u:=by simp [Act.put,h.size,hd]
    rw [this];exact hv
   ·rw [if_neg e] at hx
    have hne:d≠t:=fun e'=>e (by rw [e'])
    have:(a.put (some d) u).tmps.getD t Go.undef=a.tmps.getD t Go.undef:=by simp [Act.put,Array.getElem?_setIfInBounds_ne hne]
    rw [this];exact h.env t x hx
section
variable {P:Program} {T:Nat→TE} {w0:World} {ng:Nat}
noncomputable def opV (ng:Nat) (env:Tr V):Operand→V
 | .tmp t=>match (bOf t).get env with | some v=>v | none => .any
 | .const v=>cV v
 | .global g=>if g<ng then .ptr (bOf g) 0 else .any
 | .func f => .fn f [] []
theorem yN {R:Type} (x:Operand) (ng:Nat) (env:Tr V) (K:V→R):opK x ng env K=K (opV ng env x):=by
 cases x with
 | tmp t=>
   show (Option.rec (motive:=fun _=>R) (K .any) (fun v=>K v) ((bOf t).get env))=_
   simp only [opV]
   cases (bOf t).get env<;>rfl
 | const v=>rfl
 | global g=>
   show aI (Nat.blt g ng) _ _=_
   rw [aS]
   simp only [opV,aO]
   split<;>rfl
 | func f=>rfl
theorem mJ {R:Type} (ng:Nat) (env:Tr V):∀ (xs:List Operand) (K:List V→R),yM xs ng env K=K (xs.map (opV ng env))
 | [],_=>rfl
 | x::xs,K=>by
   show opK x ng env (fun v=>yM xs ng env fun vs=>K (v::vs))=_
   rw [yN,mJ ng env xs];rfl
theorem AR.eval {ds:List Deferred} {g:Gh} {nx:B} {nt:Nat} {env:Tr V} {a:Act} {hp:B→Option Obj} {w:World} (h:AR ds g nx.num nt env a) (hw:HR T w0 ng g hp nx w) (x:Operand):RV g nx.num (opV ng env x) (a.eval x):=by
 cases x with
 | tmp t=>
   simp only [opV,Act.eval]
   cases he:(bOf t).get env with
   | none=>exact .any _
   | some v=>exact h.env t v he
 | const v=>exact tZ g nx.num v
 | global gl=>
   simp only [opV,Act.eval]
   split
   ·rename_i hlt
    obtain ⟨h1,h2⟩:=hw.glob gl hlt
    have:=RV.ptr (g:=g) (n:=nx.num) (bOf gl) 0 (by rw [xZ];have:=hw.ngx;omega)
    rw [h1,h2] at this
    exact this
   ·exact .any _
 | func f=>exact .fn f [] [] #[] #[] rfl (fun i c v hc=>by simp at hc) rfl (fun i c v hc=>by simp at hc)
theorem AR.Nu {ds:List Deferred} {g:Gh} {nx:B} {nt:Nat} {env:Tr V} {a:Act} {hp:B→Option Obj} {w:World} (h:AR ds g nx.num nt env a) (hw:HR T w0 ng g hp nx w):∀ xs:List Operand,RVL g nx.num (xs.map (opV ng env)) (xs.map a.eval)
 | [] => .nil
 | x::xs => .cons (h.eval hw x) (AR.Nu h hw xs)
theorem mM {R α:Type}:∀ {j:Nat} {l:List α} {K:α→R} {e r:R},jJ j l K e=r→e≠r→∃ x,l[j]?=some x∧K x=r
 | 0,x::l,K,e,r,h,_=>⟨x,rfl,h⟩
 | 0,[],K,e,r,h,he=>absurd h he
 | j+1,_::l,K,e,r,h,he=>by
   obtain ⟨x,h1,h2⟩:=mM (j:=j) (l:=l) h he
   exact ⟨x,by simpa using h1,h2⟩
 | j+1,[],K,e,r,h,he=>absurd h he
theorem Pe {α:Type} {v:V} {x e r:α} (h:sG v x e=r) (he:e≠r):v = .undef∧x=r:=by
 cases v<;>first | exact ⟨rfl,h⟩ | exact absurd h he
theorem lN {a b:Bool}:tK a b=true↔a=b:=by cases a<;>cases b<;>simp [tK]
def Wd (all:List Oper) (ng:Nat) (env:Tr V) (o:Oper) (b:Bool):Prop:=match o.guard with
 | none=>b=true
 | some (j,want)=>∃ oj d,all[j]?=some oj∧oj.dst=some d∧((opV ng env (.tmp d) = .undef∧b=false)∨∃ c,opV ng env (.tmp d) = .bool c∧b=(c==want))
theorem Wd.wanted {all:List Oper} {env:Tr V} {o:Oper} {b:Bool} (h:Wd all ng env o b) {ds:List Deferred} {g:Gh} {n nt:Nat} {a:Act} (ha:AR ds g n nt env a) (hd:∀ o∈all,∀ d,o.dst=some d→d<nt):Region.wanted o (yielded all.toArray a.tmps)=b:=by
 unfold Wd at h
 unfold Region.wanted
 cases hg:o.guard with
 | none=>rw [hg] at h;simp only at h;simp [h]
 | some p=>
   obtain ⟨j,want⟩:=p
   rw [hg] at h
   obtain ⟨oj,d,h1,h2,h3⟩:=h
   have hdn:=hd oj (List.mem_of_getElem? h1) d h2
   have hget:a.tmps[d]?=some (a.tmps.getD d Go.undef):=by
    have:d<a.tmps.size:=by rw [ha.size];exact hdn
    simp [this]
   have hy:yielded all.toArray a.tmps j=match a.tmps.getD d Go.undef with | .bool b=>some b | _=>none:=by
    unfold yielded
    have e1:(all.toArray[j]?).bind (·.dst)=some d:=by simp [h1,h2]
    rw [e1]
    simp only [Option.bind_some]
    rw [hget]
    generalize a.tmps.getD d Go.undef=u
    cases u<;>rfl
   have hv:∀ v,opV ng env (.tmp d)=v→v ≠ .any→RV g n v (a.tmps.getD d Go.undef):=fun v hv hne=>by
    simp only [opV] at hv
    cases he:(bOf d).get env with
    | none=>rw [he] at hv;exact absurd hv.symm hne
    | some x=>rw [he] at hv;simp only at hv;rw [← hv];exact ha.env d x he
   simp only [hy]
   rcases h3 with ⟨e,rfl⟩ | ⟨c,e,rfl⟩
   ·have:=hv _ e (by simp)
    generalize a.tmps.getD d Go.undef=u at this
    cases this
    rfl
   ·have:=hv _ e (by simp)
    generalize a.tmps.getD d Go.undef=u at this
    cases this
    cases c<;>cases want<;>rfl
theorem jH {o:Oper} {all:List Oper} {h:H} {call:Cl} {env:Tr V} {t:Tr Obj} {nx:B} {k:KE} {r:R} (hr:∀ n,R.bad n≠r) (hs:stepG o.guard all o.dst h (bC o.op) T call ng env t nx k=r) :
  ∃ b,Wd all ng env o b∧(b=true→h T call ((bC o.op).map (opV ng env)) t nx (fun v t nx=>k (ug o.dst env v) t nx)=r)∧(b=false→k (ug o.dst env .undef) t nx=r):=by
 unfold Wd
 generalize o.guard=gd at hs
 cases gd with
 | none=>
   have hs':yM (bC o.op) ng env (fun vals=>h T call vals t nx fun v t nx=>wO o.dst env v fun env=>k env t nx)=r:=hs
   rw [mJ] at hs'
   simp only [Qz] at hs'
   exact ⟨true,rfl,fun _=>hs',fun h=>by cases h⟩
 | some p=>
   obtain ⟨j,want⟩:=p
   obtain ⟨oj,h1,h2⟩:=mM (show jJ j all _ _=r from hs) (hr _)
   obtain ⟨d,h3,h4⟩:=eU h2 (hr _)
   rw [yN] at h4
   simp only [Qz,mJ] at h4
   rcases VP h4 with ⟨c,e,h5⟩ | ⟨_,h5⟩
   ·rw [aS] at h5
    refine ⟨c==want,⟨oj,d,h1,h3,.inr ⟨c,e,rfl⟩⟩,fun hb=>?_,fun hb=>?_⟩
    ·rw [if_pos (lN.2 (by simpa using hb))] at h5;exact h5
    ·rw [if_neg (fun he=>by rw [lN.1 he] at hb;simp at hb)] at h5;exact h5
   ·obtain ⟨e,h6⟩:=Pe h5 (hr _)
    exact ⟨false,⟨oj,d,h1,h3,.inl ⟨e,rfl⟩⟩,fun h=>(by cases h),fun _=>h6⟩
theorem yH (hT:TOK P T) {call:Cl} (hc:iT P T w0 ng call) {all:List Oper} {nt:Nat} (hd:∀ o∈all,∀ d,o.dst=some d→d<nt) {K:KE} {r:R} (hr:∀ n,R.bad n≠r):∀ {os:List Oper} {env:Tr V} {t:Tr Obj} {nx:B},(∀ o∈os,o∈all) →
  II os all T call ng env t nx K=r→∃ env' t' nx',K env' t' nx'=r∧∀ {ds:List Deferred} g hp a w,HR T w0 ng g hp nx w→Sub t hp→AR ds g nx.num nt env a→∀ Q:Exit→Act→World→Prop,
   (∀ g' hp' a' w',Step T w0 ng g hp t nx w g' hp' t' nx' w'→AR ds g' nx'.num nt env' a'→Q .normal a' w')→wpList P all.toArray Q os a w
 | [],env,t,nx,_,h=>⟨env,t,nx,h,fun g hp a w h1 h2 h3 Q hQ=>hQ g hp a w (.refl h1 h2) h3⟩
 | o::os,env,t,nx,hin,h=>by
   obtain ⟨b,hw,h1,h2⟩:=jH hr h
   have hdo:∀ d,o.dst=some d→d<nt:=hd o (hin o (by simp))
   cases b with
   | false=>
     obtain ⟨env',t',nx',k1,k2⟩:=yH hT hc hd hr (os:=os) (fun o ho=>hin o (by simp [ho])) (h2 rfl)
     refine ⟨env',t',nx',k1,fun g hp a w g1 g2 g3 Q hQ=>?_⟩
     unfold wpList
     rw [hw.wanted g3 hd,if_neg (by simp)]
     exact k2 g hp _ w g1 g2 (g3.put hdo .undef) Q hQ
   | true=>
     obtain ⟨v,t1,nx1,k1,k2⟩:=CG (P:=P) hT o call hc _ _ _ _ r hr (h1 rfl)
     obtain ⟨env',t',nx',k3,k4⟩:=yH hT hc hd hr (os:=os) (fun o ho=>hin o (by simp [ho])) k1
     refine ⟨env',t',nx',k3,fun g hp a w g1 g2 g3 Q hQ=>?_⟩
     unfold wpList
     rw [hw.wanted g3 hd,if_pos rfl]
     refine .inl (k2 g hp a w g1 g2 (by rw [oG];exact g3.Nu g1 _) _ Q fun g1' hp1 v' w1 st hv=>?_)
     exact k4 g1' hp1 _ w1 st.hr st.sub ((g3.mono st.ext st.le).put hdo hv) Q fun g' hp' a' w' st' ha=>hQ g' hp' a' w' (st.trans st') ha
end
def nC (P:Program) (c:Code) (Q:Exit→Act→World→Prop) (a:Act) (w:World):Prop:=
 ∀ (b:Frame) (k:List Item) (cs:List Frame),∃ e a' w',Q e a' w'∧Arrives P (lone (b.at a (.code c :: .inLoop c::k)) cs w) b k cs e a' w'
theorem nC.wp {P:Program} {c:Code} {Q:Exit→Act→World→Prop} {a:Act} {w:World} (h:nC P c Q a w):(Code.loop c).wp P Q a w:=fun b k cs=>by
 obtain ⟨e,a',w',hq,harr⟩:=h b k cs
 exact ⟨e,a',w',hq,.of_steps (.one step_loop) harr⟩
theorem nC.step {P:Program} {c:Code} {Q:Exit→Act→World→Prop} {a:Act} {w:World} (h:c.wp P (Exit.then (nC P c Q) Q) a w):nC P c Q a w:=fun b k cs=>by
 obtain ⟨e,a₁,w₁,hq,harr⟩:=h b (.inLoop c::k) cs
 cases e with
 | normal=>
   obtain ⟨e₂,a₂,w₂,hq₂,harr₂⟩:=hq b k cs
   exact ⟨e₂,a₂,w₂,hq₂,.of_steps (Steps.trans harr (.one step_inLoop)) harr₂⟩
 | exit id=>exact ⟨_,a₁,w₁,hq,.pass (x := .inLoop c) rfl (fun _ _ => .inl (by simp)) harr⟩
 | goto l=>exact ⟨_,a₁,w₁,hq,.pass (x := .inLoop c) rfl (fun _ _ => .inl (by simp)) harr⟩
 | ret=>exact ⟨_,a₁,w₁,hq,.pass (x := .inLoop c) rfl (fun _ _ => .inl (by simp)) harr⟩
 | panic ch=>exact ⟨_,a₁,w₁,hq,.pass (x := .inLoop c) rfl (fun _ _ => .inl (by simp)) harr⟩
 | outgrown=>exact ⟨_,a₁,w₁,hq,.pass (x := .inLoop c) rfl (fun _ _ => .inl (by simp)) harr⟩
def X.exit:X→Exit | .nrm => .normal | .ex i => .exit i | .ret => .ret
section
variable (P:Program) (T:Nat→TE) (w0:World) (ng:Nat) (nt:Nat)
def abE (its:List DI) (ops:List Oper):Prop:=∀ call,iT P T w0 ng call→∀ env t nx (K:KE) r,(∀ n,R.bad n≠r)→ahF its ops T call ng env t nx K=r →
 ∃ env' t' nx',K env' t' nx'=r∧∀ {ds:List Deferred} id g hp a w,HR T w0 ng g hp nx w→Sub t hp→AR ds g nx.num nt env a→∀ Q:Exit→Act→World→Prop,
   (∀ g' hp' a' w',Step T w0 ng g hp t nx w g' hp' t' nx' w'→AR ds g' nx'.num nt env' a'→Q .normal a' w')→(Code.region id ops.toArray true).wp P Q a w
def jV (ann:Nat→List DI):Code→Prop
 | .region id ops d=>(∀ o∈ops.toList,∀ x,o.dst=some x→x<nt)∧(d=true→abE P T w0 ng nt (ann id) ops.toList)
 | .seq a b=>jV ann a∧jV ann b
 | .cond _ a b=>jV ann a∧jV ann b
 | .block _ c=>jV ann c
 | .loop c=>jV ann c
 | _=>True
def QX (ds:List Deferred) (g:Gh) (hp:B→Option Obj) (t:Tr Obj) (nx:B) (w:World) (x:X) (env':Tr V) (t':Tr Obj) (nx':B):Exit→Act→World→Prop:=
 fun e a' w'=>e=x.exit∧∃ g' hp',Step T w0 ng g hp t nx w g' hp' t' nx' w'∧AR ds g' nx'.num nt env' a'
def CT (c:Code) (env:Tr V) (t:Tr Obj) (nx:B) (x:X) (env':Tr V) (t':Tr Obj) (nx':B):Prop:=
 ∀ {ds:List Deferred} g hp a w,HR T w0 ng g hp nx w→Sub t hp→AR ds g nx.num nt env a→c.wp P (QX T w0 ng nt ds g hp t nx w x env' t' nx') a w
def LT (c:Code) (env:Tr V) (t:Tr Obj) (nx:B) (x:X) (env':Tr V) (t':Tr Obj) (nx':B):Prop:=
 ∀ {ds:List Deferred} g hp a w,HR T w0 ng g hp nx w→Sub t hp→AR ds g nx.num nt env a→nC P c (QX T w0 ng nt ds g hp t nx w x env' t' nx') a w
def aA (f:Nat) (fe:FE):Prop:=∃ fn,P.funcs[f]?=some fn∧(fn.name == "runtime.NumGoroutine")=false∧fn.body=some fe.body∧fn.results.toList=fe.res∧fn.ntmps=fe.nt∧jV P T w0 ng fe.nt fe.ann fe.body
def FOK (F:Nat→Option FE):Prop:=∀ f fe,F f=some fe→∀ args t nx e v t' nx',fe.pre args t nx e = .ret v t' nx'→Comes P T w0 ng f args t nx v t' nx'∨(e = .ret v t' nx'∧aA P T w0 ng f fe)
end
section
variable {P:Program} {T:Nat→TE} {w0:World} {ng:Nat} {nt:Nat}
def yI (tmps:Array Value):ResultVar→Sem Value
 | .tmp t=>pure (tmps.getD t Go.undef)
 | .cell a t=>do loadVar t (← asAddr (tmps.getD a Go.undef))
theorem uZ (fn:Func) (tmps:Array Value):results fn tmps=(do let vs ← fn.results.mapM (yI tmps);pure (if h:vs.size=1 then vs[0] else .tuple vs)):=by
 unfold results
 congr 1
theorem mG {fn:Func} {a:Act} {w:World} {vs:List Value} (h:(fn.results.toList.mapM (yI a.tmps)).run P w = .ok vs w) :
  (results fn a.tmps).run P w = .ok (match vs with | [v]=>v | vs => .tuple vs.toArray) w:=by
 rw [uZ,Sem.run_bind]
 have:(fn.results.mapM (yI a.tmps)).run P w = .ok vs.toArray w:=by
  rw [Array.mapM_eq_mapM_toList]
  simp only [Sem.run_map,h,Result.andThen_ok]
 rw [this]
 simp only [Result.andThen_ok,Sem.run_pure]
 match vs with
 | []=>rfl
 | [v]=>rfl
 | v::u::r=>simp
theorem XO {k:TK} {n:Nat} {cs:Tr V} {off:Nat} {K:V→FR} {r:FR} (h:XP k n cs off K=r) (hr:∀ n,FR.bad n≠r) :
  ∃ v,K v=r∧((k.isAgg=true∧∃ vs,dB cs off n=some vs∧v = .agg vs)∨(k.isAgg=false∧k ≠ .none∧(bOf off).get cs=some v)):=by
 have one:∀ (k:TK),(Option.rec (motive:=fun _=>FR) (.bad 2) (fun v=>K v) ((bOf off).get cs))=r→k.isAgg=false→k ≠ .none →
   ∃ v,K v=r∧((k.isAgg=true∧∃ vs,dB cs off n=some vs∧v = .agg vs)∨(k.isAgg=false∧k ≠ .none∧(bOf off).get cs=some v)):=by
  intro k h h1 h2
  cases hg:(bOf off).get cs with
  | none=>rw [hg] at h;exact absurd h (hr _)
  | some v=>rw [hg] at h;exact ⟨v,h,.inr ⟨h1,h2,rfl⟩⟩
 cases k with
 | none=>exact absurd h (hr _)
 | agg fs=>obtain ⟨vs,h1,h2⟩:=kK h (hr _);exact ⟨_,h2,.inl ⟨rfl,vs,h1,rfl⟩⟩
 | arr m e'=>obtain ⟨vs,h1,h2⟩:=kK h (hr _);exact ⟨_,h2,.inl ⟨rfl,vs,h1,rfl⟩⟩
 | _=>exact one _ h rfl (by simp)
theorem wI (hT:TOK P T) {env:Tr V} {t:Tr Obj} {nx:B} {r:FR} (hr:∀ n,FR.bad n≠r):∀ {rs:List ResultVar} {K:List V→FR},Qs rs T ng env t K=r →
  ∃ vs,K vs=r∧∀ {ds:List Deferred} g hp a w,HR T w0 ng g hp nx w→Sub t hp→AR ds g nx.num nt env a→∃ us:List Value,(rs.mapM (yI a.tmps)).run P w = .ok us w∧RVL g nx.num vs us
 | [],K,h=>⟨[],h,fun g hp a w _ _ _=>⟨[],by simp,.nil⟩⟩
 | .tmp x::rs,K,h=>by
   have h':opK (.tmp x) ng env (fun v=>Qs rs T ng env t fun vs=>K (v::vs))=r:=h
   rw [yN] at h'
   obtain ⟨vs,k1,k2⟩:=wI hT hr h'
   refine ⟨_,k1,fun g hp a w h1 h2 h3=>?_⟩
   obtain ⟨us,e1,e2⟩:=k2 g hp a w h1 h2 h3
   refine ⟨a.tmps.getD x Go.undef::us,?_,.cons (h3.eval h1 (.tmp x)) e2⟩
   rw [List.mapM_cons]
   simp only [yI,Sem.run_bind,Sem.run_pure,Result.andThen_ok,e1]
 | .cell x ty::rs,K,h=>by
   have h':opK (.tmp x) ng env (fun v=>jO v (fun id off=>ji (id.get t) (fun _ _ _ cs=>XP (T ty).k (T ty).size cs off fun v=>Qs rs T ng env t fun vs=>K (v::vs)) (.bad 116)) (.bad 117))=r:=h
   rw [yN] at h'
   obtain ⟨id,off,hp',k0⟩:=jM h' (hr _)
   obtain ⟨ro,sz,hi,cs,hg,k1⟩:=fO k0 (hr _)
   obtain ⟨v,k2,hv⟩:=XO k1 hr
   obtain ⟨vs,k3,k4⟩:=wI hT hr k2
   refine ⟨_,k3,fun g hp a w h1 h2 h3=>?_⟩
   obtain ⟨us,e1,e2⟩:=k4 g hp a w h1 h2 h3
   have hx:=h3.eval h1 (.tmp x)
   rw [hp'] at hx
   obtain ⟨u,e3,e4⟩:=run_load hT h1 h2 hg hv
   have hx':a.tmps.getD x Go.undef = .pointer (some ⟨(g id).b,(g id).o+off,none⟩):=by
    have:a.eval (.tmp x) = .pointer (some ⟨(g id).b,(g id).o+off,none⟩):=by
     generalize a.eval (.tmp x)=u at hx
     cases hx;rfl
    exact this
   refine ⟨u::us,?_,.cons e4 e2⟩
   rw [List.mapM_cons]
   simp only [yI,Sem.run_bind,hx',asAddr,Sem.run_pure,Result.andThen_ok,e3,e1]
theorem aa4 {f:Nat} {fe:FE} {fn:Func} {args:List V} {t:Tr Obj} {nx:B} {x:X} {env1:Tr V} {t1:Tr Obj} {nx1:B} {v:V} {t':Tr Obj} {nx':B} (e1:P.funcs[f]?=some fn) (e2:(fn.name == "runtime.NumGoroutine")=false) (e3:fn.body=some fe.body) (e4:fn.results.toList=fe.res) (e5:fn.ntmps=fe.nt)
  (hT:TOK P T) (hle:args.length≤fe.nt) (hct:CT P T w0 ng fe.nt fe.body (eu args .lf 0) t nx x env1 t1 nx1) (k5:aiX x fe.res T ng env1 t1 nx1 = .ret v t' nx'):rP P T w0 ng f args t nx v t' nx':=by
 have hb:∀ n,FR.bad n ≠ .ret v t' nx':=fun n h=>by cases h
 refine ⟨⟨fn,e1,e2,by rw [e3];rfl⟩,fun g hp w vs h1 h2 h3=>calls_of_wp e1 e3 ?_⟩
 have hlen:vs.length=args.length:=h3.1
 have ha:AR [] g nx.num fe.nt (eu args .lf 0) { tmps:=vs.toArray++Array.replicate (fn.ntmps-vs.toArray.size) Go.undef,defers:=[] }:=by
  refine ⟨rfl,by simp [e5];omega,fun i c hc=>?_⟩
  rw [bT] at hc
  split at hc
  ·rename_i hi
   rw [Nat.sub_zero] at hc
   have hlt:i<vs.length:=by omega
   have e:(vs.toArray++Array.replicate (fn.ntmps-vs.toArray.size) Go.undef).getD i Go.undef=vs[i]:=by
    have:i<vs.toArray.size:=by simpa using hlt
    simp [Array.getElem?_append_left this,hlt]
   rw [e]
   exact h3.2 i c vs[i] hc (List.getElem?_eq_getElem hlt)
  ·rw [B.bW] at hc;cases hc
 refine wp_mono (hct g hp _ w h1 h2 ha) fun e a' w' ⟨he,g',hp',st,ha'⟩=>?_
 subst he
 have fin:resV fe.res T ng env1 t1 (fun v => .ret v t1 nx1) = .ret v t' nx'→a'.defers=[]∧∃ u,(results fn a'.tmps).run P w' = .ok u w'∧∃ g' hp' val,Ending.returned u = .returned val∧Step T w0 ng g hp t nx w g' hp' t' nx' w'∧RV g' nx'.num v val:=fun k6=>by
  obtain ⟨rs,k7,k8⟩:=wI (P:=P) (w0:=w0) (ng:=ng) (nt:=fe.nt) (nx:=nx1) hT hb k6
  obtain ⟨us,r1,r2⟩:=k8 g' hp' a' w' st.hr st.sub ha'
  rw [← e4] at r1
  refine ⟨ha'.defers,_,mG r1,g',hp',_,rfl,?_⟩
  match rs,us,r2,k7 with
  | [c],[u],r2,k7=>
    have k7:FR.ret c t1 nx1 = .ret v t' nx':=k7
    cases k7
    exact ⟨st,r2.2 0 _ u rfl rfl⟩
  | [],[],r2,k7=>
    have k7:FR.ret (.tup []) t1 nx1 = .ret v t' nx':=k7
    cases k7
    exact ⟨st,.tup _ _ rfl fun i c u hc=>by simp at hc⟩
  | c::c2::cs,u::u2::us,r2,k7=>
    have k7:FR.ret (.tup (c::c2::cs)) t1 nx1 = .ret v t' nx':=k7
    cases k7
    exact ⟨st,.tup _ _ (by simpa using r2.1) fun i c u hc hu=>r2.2 i c u hc (by simpa using hu)⟩
  | [],_::_,r2,_=>exact absurd r2.1 (by simp)
  | [_],[],r2,_=>exact absurd r2.1 (by simp)
  | [_],_::_::_,r2,_=>exact absurd r2.1 (by simp)
  | _::_::_,[],r2,_=>exact absurd r2.1 (by simp)
  | _::_::_,[_],r2,_=>exact absurd r2.1 (by simp)
 cases x with
 | nrm=>exact fin k5
 | ret=>exact fin k5
 | ex i=>exact absurd k5 (hb _)
end
def edM (ms:List Nat):List Edge→Option Nat
 | []=>some 0
 | e::es=>match Region.binds .any e with
   | true=>(match ms[e.on]? with
     | some m=>(match edM ms es with | some r=>some (m ||| (2 ^ e.on) ||| r) | none=>none)
     | none=>none)
   | false=>edM ms es
def masks:List Oper→List Nat→Option (List Nat)
 | [],ms=>some ms
 | o::os,ms=>match edM ms o.after.toList with | some m=>masks os (ms++[m]) | none=>none
theorem Eh {ms:List Nat}:∀ {es:List Edge} {r:Nat},edM ms es=some r→∀ i,r.testBit i=true→∃ e∈es,Region.binds .any e=true∧e.on<ms.length∧(e.on=i∨∃ m,ms[e.on]?=some m∧m.testBit i=true)
 | [],r,h,i,hi=>by simp [edM] at h;subst h;simp at hi
 | e::es,r,h,i,hi=>by
   unfold edM at h
   split at h
   ·rename_i hb
    split at h
    ·rename_i m hm
     split at h
     ·rename_i r' hr'
      simp at h
      subst h
      rw [Nat.testBit_or,Nat.testBit_or] at hi
      have hlt:e.on<ms.length:=(List.getElem?_eq_some_iff.1 hm).1
      simp only [Bool.or_eq_true] at hi
      rcases hi with (hi | hi) | hi
      ·exact ⟨e,by simp,hb,hlt,.inr ⟨m,hm,hi⟩⟩
      ·rw [Nat.testBit_two_pow] at hi
       exact ⟨e,by simp,hb,hlt,.inl (by simpa using hi)⟩
      ·obtain ⟨e',h1,h2⟩:=Eh hr' i hi
       exact ⟨e',by simp [h1],h2⟩
     ·cases h
    ·cases h
   ·obtain ⟨e',h1,h2⟩:=Eh h i hi
    exact ⟨e',by simp [h1],h2⟩
theorem C9:∀ {os:List Oper} {ms r:List Nat},masks os ms=some r→r.length=ms.length+os.length∧(∀ j,j<ms.length→r[j]?=ms[j]?) ∧
  ∀ j o,os[j]?=some o→∃ m,r[ms.length+j]?=some m∧∀ i,m.testBit i=true→∃ e∈o.after,Region.binds .any e=true∧e.on<ms.length+j∧(e.on=i∨∃ m',r[e.on]?=some m'∧m'.testBit i=true)
 | [],ms,r,h=>by simp [masks] at h;subst h;exact ⟨by simp,fun _ _=>rfl,fun j o ho=>by simp at ho⟩
 | o::os,ms,r,h=>by
   unfold masks at h
   split at h
   ·rename_i m hm
    obtain ⟨h1,h2,h3⟩:=C9 h
    simp only [List.length_append,List.length_cons,List.length_nil] at h1 h2 h3
    have hold:∀ j,j<ms.length→r[j]?=ms[j]?:=fun j hj=>by rw [h2 j (by omega),List.getElem?_append_left hj]
    refine ⟨by simp;omega,hold,fun j o' ho'=>?_⟩
    cases j with
    | zero=>
      simp at ho'
      subst ho'
      refine ⟨m,by rw [Nat.add_zero,h2 _ (by omega)];simp,fun i hi=>?_⟩
      obtain ⟨e,e1,e2,e3,e4⟩:=Eh hm i hi
      exact ⟨e,by simpa using e1,e2,by omega,e4.imp id fun ⟨m',f1,f2⟩=>⟨m',by rw [hold _ e3];exact f1,f2⟩⟩
    | succ j=>
      obtain ⟨m',e1,e2⟩:=h3 j o' (by simpa using ho')
      exact ⟨m',by rw [show ms.length+(j+1)=ms.length+(0+1)+j by omega];exact e1,fun i hi=>by
       obtain ⟨e,f1,f2,f3,f4⟩:=e2 i hi
       exact ⟨e,f1,f2,by omega,f4⟩⟩
   ·cases h
theorem aiY:∀ (es:List Edge) (l:List Nat) (r:Nat),edM l es=some r→∀ e∈es,Region.binds .any e=true→e.on<l.length:=by
 intro es
 induction es with
 | nil=>intro l r _ e he;cases he
 | cons z es ih=>
   intro l r hr e he hb
   unfold edM at hr
   split at hr
   ·split at hr
    ·rename_i m hm
     split at hr
     ·rename_i r' hr'
      rcases List.mem_cons.1 he with rfl | he
      ·exact (List.getElem?_eq_some_iff.1 hm).1
      ·exact ih l r' hr' e he hb
     ·cases hr
    ·cases hr
   ·rename_i hnb
    rcases List.mem_cons.1 he with rfl | he
    ·exact absurd hb (by rw [hnb];simp)
    ·exact ih l r hr e he hb
theorem XG:∀ (os:List Oper) (l r:List Nat),masks os l=some r→∀ (j:Nat) o,os[j]?=some o→∀ e∈o.after,Region.binds .any e=true→e.on<l.length+j:=by
 intro os
 induction os with
 | nil=>intro l r _ j o ho;simp at ho
 | cons z os ih=>
   intro l r hr j o ho e he hb
   unfold masks at hr
   split at hr
   ·rename_i m hm
    cases j with
    | zero=>simp at ho;subst ho;exact aiY _ _ _ hm e (by simpa using he) hb
    | succ j=>have:=ih _ _ hr j o (by simpa using ho) e he hb;simp at this;omega
   ·cases hr
def rO (ops:List Oper) (ms:List Nat):Prop:=∃ rk:Nat→Nat,ms.length=ops.length∧∀ j o,ops[j]?=some o→(∀ e∈o.after,Region.binds .any e=true→rk e.on<rk j∧e.on<ops.length) ∧
 ∃ m,ms[j]?=some m∧∀ i,m.testBit i=true→∃ e∈o.after,Region.binds .any e=true∧(e.on=i∨∃ m',ms[e.on]?=some m'∧m'.testBit i=true)
theorem XH {ops:List Oper} {ms:List Nat} (h:masks ops []=some ms):rO ops ms:=by
 obtain ⟨h1,_,h3⟩:=C9 h
 simp only [List.length_nil,Nat.zero_add] at h1 h3
 refine ⟨id,h1,fun j o ho=>⟨fun e he hb=>?_,?_⟩⟩
 ·have:=XG ops [] ms h j o ho e he hb
  simp only [List.length_nil,Nat.zero_add] at this
  exact ⟨this,Nat.lt_trans this (List.getElem?_eq_some_iff.1 ho).1⟩
 ·obtain ⟨m,e1,e2⟩:=h3 j o ho
  exact ⟨m,e1,fun i hi=>by obtain ⟨e,f1,f2,_,f4⟩:=e2 i hi;exact ⟨e,f1,f2,f4⟩⟩
def lkM:List (Nat×Nat)→Nat→Option Nat
 | [],_=>none
 | x::l,k=>match Nat.beq x.1 k with | true=>some x.2 | false=>lkM l k
def edP (acc:List (Nat×Nat)):List Edge→Option Nat
 | []=>some 0
 | e::es=>match Region.binds .any e with
   | true=>(match lkM acc e.on with
     | some m=>(match edP acc es with | some r=>some (m ||| (2 ^ e.on) ||| r) | none=>none)
     | none=>none)
   | false=>edP acc es
def Dc (ops:List Oper):List Nat→List (Nat×Nat)→Option (List (Nat×Nat))
 | [],acc=>some acc
 | k::ks,acc=>match lkM acc k,ops[k]? with
   | none,some o=>(match edP acc o.after.toList with | some m=>Dc ops ks ((k,m)::acc) | none=>none)
   | _,_=>none
def MF (acc:List (Nat×Nat)):List Nat→Option (List Nat)
 | []=>some []
 | k::ks=>match lkM acc k,MF acc ks with
   | some m,some r=>some (m::r)
   | _,_=>none
def XI (ops:List Oper) (ks:List Nat):Option (List Nat):=match Dc ops ks [] with | some acc=>MF acc (List.range ops.length) | none=>none
def O4 (ops:List Oper) (ks:List Nat):Option (List Nat):=match masks ops [] with | some ms=>some ms | none=>XI ops ks
def posM:List (Nat×Nat)→Nat→Nat
 | [],_=>0
 | x::l,k=>if x.1=k then l.length+1 else posM l k
theorem QE:∀ (l:List (Nat×Nat)) (k:Nat),posM l k≤l.length
 | [],_=>Nat.le_refl _
 | x::l,k=>by unfold posM;split;simp;have:=QE l k;simp;omega
theorem MC (x:Nat×Nat) (l:List (Nat×Nat)) (k:Nat):lkM (x::l) k=if x.1=k then some x.2 else lkM l k:=by
 show (match Nat.beq x.1 k with | true=>some x.2 | false=>lkM l k)=_
 split
 ·rename_i h;rw [if_pos (Nat.eq_of_beq_eq_true h)]
 ·rename_i h;rw [if_neg (fun e=>by rw [e,Nat.beq_refl] at h;cases h)]
theorem Ef {acc:List (Nat×Nat)}:∀ {es:List Edge} {r:Nat},edP acc es=some r→(∀ e∈es,Region.binds .any e=true→∃ m,lkM acc e.on=some m)∧∀ i,r.testBit i=true→∃ e∈es,Region.binds .any e=true∧(e.on=i∨∃ m,lkM acc e.on=some m∧m.testBit i=true)
 | [],r,h=>by simp [edP] at h;subst h;exact ⟨fun e he=>(by cases he),fun i hi=>by simp at hi⟩
 | e::es,r,h=>by
   unfold edP at h
   split at h
   ·rename_i hb
    split at h
    ·rename_i m hm
     split at h
     ·rename_i r' hr'
      simp at h
      subst h
      obtain ⟨g1,g2⟩:=Ef hr'
      refine ⟨fun e' he' hb'=>?_,fun i hi=>?_⟩
      ·rcases List.mem_cons.1 he' with rfl | he'
       ·exact ⟨m,hm⟩
       ·exact g1 e' he' hb'
      ·rw [Nat.testBit_or,Nat.testBit_or] at hi
       simp only [Bool.or_eq_true] at hi
       rcases hi with (hi | hi) | hi
       ·exact ⟨e,by simp,hb,.inr ⟨m,hm,hi⟩⟩
       ·rw [Nat.testBit_two_pow] at hi
        exact ⟨e,by simp,hb,.inl (by simpa using hi)⟩
       ·obtain ⟨e',h1,h2⟩:=g2 i hi
        exact ⟨e',by simp [h1],h2⟩
     ·cases h
    ·cases h
   ·rename_i hnb
    obtain ⟨g1,g2⟩:=Ef h
    refine ⟨fun e' he' hb'=>?_,fun i hi=>?_⟩
    ·rcases List.mem_cons.1 he' with rfl | he'
     ·exact absurd hb' (by rw [hnb];simp)
     ·exact g1 e' he' hb'
    ·obtain ⟨e',h1,h2⟩:=g2 i hi
     exact ⟨e',by simp [h1],h2⟩
def ahq (ops:List Oper) (acc:List (Nat×Nat)):Prop:=∀ k m,lkM acc k=some m→∃ o,ops[k]?=some o∧(∀ e∈o.after,Region.binds .any e=true→posM acc e.on<posM acc k∧∃ m',lkM acc e.on=some m') ∧
 ∀ i,m.testBit i=true→∃ e∈o.after,Region.binds .any e=true∧(e.on=i∨∃ m',lkM acc e.on=some m'∧m'.testBit i=true)
theorem Gp {ops:List Oper}:∀ {ks:List Nat} {acc r:List (Nat×Nat)},Dc ops ks acc=some r→ahq ops acc→ahq ops r
 | [],acc,r,h,ha=>by simp [Dc] at h;subst h;exact ha
 | k::ks,acc,r,h,ha=>by
   unfold Dc at h
   split at h
   case h_2=>cases h
   rename_i o hn ho
   split at h
   case h_2=>cases h
   rename_i m hm
   refine Gp h fun k' m' hk'=>?_
   obtain ⟨g1,g2⟩:=Ef hm
   have hne:∀ j m1,lkM acc j=some m1→k≠j:=fun j m1 hj e=>by subst e;rw [hn] at hj;cases hj
   have hpos:∀ j m1,lkM acc j=some m1→posM ((k,m)::acc) j=posM acc j∧lkM ((k,m)::acc) j=some m1:=fun j m1 hj=>by
    refine ⟨?_,?_⟩
    ·show (if k=j then _ else _)=_;rw [if_neg (hne j m1 hj)]
    ·rw [MC];show (if k=j then _ else _)=_;rw [if_neg (hne j m1 hj),hj]
   rw [MC] at hk'
   simp only at hk'
   split at hk'
   ·rename_i e
    subst e
    cases hk'
    refine ⟨o,ho,fun e he hb=>?_,fun i hi=>?_⟩
    ·obtain ⟨m1,hm1⟩:=g1 e (by simpa using he) hb
     obtain ⟨q1,q2⟩:=hpos _ _ hm1
     refine ⟨?_,m1,q2⟩
     rw [q1]
     show _<(if k=k then _ else _)
     rw [if_pos rfl]
     have:=QE acc e.on
     omega
    ·obtain ⟨e,h1,h2,h3⟩:=g2 i hi
     refine ⟨e,by simpa using h1,h2,h3.imp id fun ⟨m1,f1,f2⟩=>⟨m1,(hpos _ _ f1).2,f2⟩⟩
   ·rename_i e
    obtain ⟨o',f1,f2,f3⟩:=ha k' m' hk'
    refine ⟨o',f1,fun e he hb=>?_,fun i hi=>?_⟩
    ·obtain ⟨q1,m1,q2⟩:=f2 e he hb
     rw [(hpos _ _ q2).1,(hpos _ _ hk').1]
     exact ⟨q1,m1,(hpos _ _ q2).2⟩
    ·obtain ⟨e,h1,h2,h3⟩:=f3 i hi
     exact ⟨e,h1,h2,h3.imp id fun ⟨m1,q1,q2⟩=>⟨m1,(hpos _ _ q1).2,q2⟩⟩
theorem Df {acc:List (Nat×Nat)}:∀ {ks r:List Nat},MF acc ks=some r→r.length=ks.length∧∀ (j k:Nat),ks[j]?=some k→∃ m,r[j]?=some m∧lkM acc k=some m
 | [],r,h=>by simp [MF] at h;subst h;exact ⟨rfl,fun j k hj=>by simp at hj⟩
 | k::ks,r,h=>by
   unfold MF at h
   split at h
   case h_2=>cases h
   rename_i m r' hm hr'
   simp at h
   subst h
   obtain ⟨h1,h2⟩:=Df hr'
   refine ⟨by simp [h1],fun j k' hj=>?_⟩
   cases j with
   | zero=>simp at hj;subst hj;exact ⟨m,rfl,hm⟩
   | succ j=>exact h2 j k' (by simpa using hj)
theorem Gq {ops:List Oper} {ks ms:List Nat} (h:O4 ops ks=some ms):rO ops ms:=by
 unfold O4 at h
 split at h
 ·rename_i ms' hm;cases h;exact XH hm
 ·unfold XI at h
  split at h
  case h_2=>cases h
  rename_i acc hacc
  have ha:=Gp hacc (fun k m hk=>by simp [lkM] at hk)
  obtain ⟨h1,h2⟩:=Df h
  have hin:∀ k,k<ops.length→∃ m,ms[k]?=some m∧lkM acc k=some m:=fun k hk=>h2 k k (by simp [List.getElem?_range,hk])
  refine ⟨posM acc,by simpa using h1,fun j o ho=>?_⟩
  have hj:=(List.getElem?_eq_some_iff.1 ho).1
  obtain ⟨m,e1,e2⟩:=hin j hj
  obtain ⟨o',f1,f2,f3⟩:=ha j m e2
  rw [ho] at f1
  cases f1
  have hlt:∀ k m,lkM acc k=some m→k<ops.length:=fun k m hk=>by obtain ⟨o'',g1,_⟩:=ha k m hk;exact (List.getElem?_eq_some_iff.1 g1).1
  refine ⟨fun e he hb=>?_,m,e1,fun i hi=>?_⟩
  ·obtain ⟨q1,m1,q2⟩:=f2 e he hb
   exact ⟨q1,hlt _ _ q2⟩
  ·obtain ⟨e,q1,q2,q3⟩:=f3 i hi
   refine ⟨e,q1,q2,q3.imp id fun ⟨m1,r1,r2⟩=>?_⟩
   obtain ⟨m2,s1,s2⟩:=hin _ (hlt _ _ r1)
   rw [r1] at s2
   cases s2
   exact ⟨m1,s1,r2⟩
def Closed (ops:List Oper) (L:Nat→Prop):Prop:=∀ j o,L j→ops[j]?=some o→∀ e∈o.after,Region.binds .any e=true→L e.on
theorem Gn {ops:List Oper} {ms:List Nat} (h:rO ops ms) {L:Nat→Prop} (hL:Closed ops L) {j m:Nat} {o:Oper} (ho:ops[j]?=some o) (hm:ms[j]?=some m) (hp:∀ e∈o.after,Region.binds .any e=true→L e.on):∀ i,m.testBit i=true→L i:=by
 obtain ⟨rk,h1,h3⟩:=h
 have key:∀ n j,rk j<n→L j→∀ m,ms[j]?=some m→∀ i,m.testBit i=true→L i:=by
  intro n
  induction n with
  | zero=>intro j hj;omega
  | succ n ih=>
    intro j hj hLj m hm i hi
    have hjo:j<ops.length:=by rw [← h1];exact (List.getElem?_eq_some_iff.1 hm).1
    obtain ⟨f0,m',e1,e2⟩:=h3 j _ (List.getElem?_eq_getElem hjo)
    rw [hm] at e1
    cases e1
    obtain ⟨e,f1,f2,f4⟩:=e2 i hi
    have hLe:=hL j _ hLj (List.getElem?_eq_getElem hjo) e f1 f2
    have f3:=(f0 e f1 f2).1
    rcases f4 with rfl | ⟨m'',g1,g2⟩
    ·exact hLe
    ·exact ih e.on (by omega) hLe m'' g1 i g2
 intro i hi
 obtain ⟨_,m',e1,e2⟩:=h3 j o ho
 rw [hm] at e1
 cases e1
 obtain ⟨e,f1,f2,f4⟩:=e2 i hi
 have hLe:=hp e f1 f2
 rcases f4 with rfl | ⟨m'',g1,g2⟩
 ·exact hLe
 ·exact key (rk e.on+1) e.on (by omega) hLe m'' g1 i g2
def tmpsOf:List Operand→List Nat
 | []=>[]
 | .tmp t::xs=>t::tmpsOf xs
 | _::xs=>tmpsOf xs
theorem vI {t:Nat}:∀ {xs:List Operand},Operand.tmp t∈xs→t∈tmpsOf xs
 | x::xs,h=>by
   rcases List.mem_cons.1 h with rfl | h
   ·simp [tmpsOf]
   ·have:=vI h
    cases x<;>simp [tmpsOf,this]
def akX (all:List Oper) (o:Oper):List Nat:=match o.guard with
 | some (j,_)=>(match all[j]? with | some oj=>(match oj.dst with | some d=>[d] | none=>[]) | none=>[])
 | none=>[]
def eG (all:List Oper) (o:Oper):List Nat:=tmpsOf (bC o.op)++akX all o
def iZ (x:Nat):List Nat→Bool
 | []=>false
 | y::l=>match Nat.beq x y with | true=>true | false=>iZ x l
theorem fH {x:Nat}:∀ {l:List Nat},iZ x l=true↔x∈l
 | []=>by simp [iZ]
 | y::l=>by
   unfold iZ
   split
   ·rename_i h;simp [Nat.eq_of_beq_eq_true h]
   ·rename_i h
    have hne:x≠y:=fun e=>by rw [e,Nat.beq_refl] at h;cases h
    rw [fH];simp [hne]
structure Rec where
 k:Nat
 cl:Nat
 back:Nat
 o:Oper
 looks:List Nat
 mask:Nat
def iQ (k:Nat) (y:Rec):Bool:=y.mask.testBit k
def Vp:Op→Bool
 | .alloc _=>true
 | .makeMap _ none=>true
 | .buildSlice _ _ _=>true
 | _=>false
def recs (all:List Oper) (ms:List Nat):List DI→Option (List Rec)
 | []=>some []
 | it::its=>match all[it.k]?,ms[it.k]?,recs all ms its with
   | some o,some m,some r=>some (⟨it.k,it.cl,it.back,o,eG all o,m⟩::r)
   | _,_,_=>none
def Vq (d:Option Nat) (l:List Nat):Bool:=match d with | some d=>iZ d l | none=>false
def WC (d d':Option Nat):Bool:=match d,d' with | some d,some d'=>Nat.beq d d' | _,_=>false
def vF (x y:Rec):Bool:=
 (!(Nat.beq x.k y.k))&&((iQ x.k y)||(!(Vq x.o.dst y.looks)&&!(WC x.o.dst y.o.dst)&&!(Vq y.o.dst x.looks)))&&((!(Nat.beq y.cl 2))||iQ x.k y)&&((!(Nat.beq x.cl 1)&&!(Nat.beq y.cl 1))||!(WC x.o.dst y.o.dst))
def NW (R:Rec→Rec→Bool):List Rec→Bool
 | []=>true
 | x::r=>r.all (R x)&&NW R r
def zOk (d:Nat):Option Nat→List Rec→Bool
 | _,[]=>true
 | none,y::r=>if Nat.beq y.cl 2 then zOk d (some y.k) r else !(iZ d y.looks)&&zOk d none r
 | some w,y::r=>(!(iZ d y.looks)||iQ w y)&&zOk d (some w) r
def CO (x:Rec) (rest:List Rec):Bool:=match x.cl with
 | 0=>isQ x.o.op
 | 1=>Vp x.o.op&&x.o.guard.isNone&&(match x.o.dst with | some d=>zOk d none rest&&!(iZ d x.looks) | none=>false)
 | _=>true
def iL:List Rec→Bool
 | []=>true
 | x::r=>CO x r&&iL r
def backOk:List Nat→List Rec→Bool
 | _,[]=>true
 | ch,x::r=>(match x.cl with
   | 0=>(match ch[x.back]? with | some k=>iQ k x | none=>Nat.beq x.back ch.length)
   | _=>true)&&backOk (match x.cl with | 2=>x.k::ch | _=>ch) r
def Bd (n:Nat) (rs:List Rec):Bool:=(List.range n).all fun k=>rs.any fun r=>Nat.beq r.k k
def vU (ops:List Oper) (its:List DI):Bool:=match O4 ops (its.map DI.k) with
 | some ms=>(match recs ops ms its with
   | some rs=>NW vF rs&&iL rs&&backOk [] rs&&Bd ops.length rs
   | none=>false)
 | none=>false
theorem Ij {R:Rec→Rec→Bool}:∀ {l:List Rec},NW R l=true→∀ (i j:Nat) x y,i<j→l[i]?=some x→l[j]?=some y→R x y=true
 | [],_,i,j,x,y,_,h,_=>by simp at h
 | z::l,h,i,j,x,y,hij,hx,hy=>by
   simp only [NW,Bool.and_eq_true] at h
   cases j with
   | zero=>omega
   | succ j=>
     simp at hy
     cases i with
     | zero=>simp at hx;subst hx;exact List.all_eq_true.1 h.1 y (List.mem_of_getElem? hy)
     | succ i=>simp at hx;exact Ij h.2 i j x y (by omega) hx hy
end Go.Sim
namespace Go.Sim
open Go Go.RowKit
open Go.Abs (TE TK SK TOK TFacts patch size_patch patch_in patch_out)
theorem Rt (b:B):Jd b=b.num:=rfl
theorem eqB {a b:B} (h:Nat.beq (Jd a) (Jd b)=true):a=b:=by
 have:=beq_iff.1 h
 rw [Rt,Rt] at this
 exact B.eX this
theorem JG {a b:Int} (h:eqI a b=true):a=b:=by
 cases a<;>cases b<;>simp [eqI] at h<;>first | (rw [h]) | cases h
theorem JF {a b:Option Nat} (h:eqO a b=true):a=b:=by
 cases a<;>cases b<;>first | rfl | cases h | (rw [beq_iff.1 h])
theorem Ho {a b:V} (h:ZT a b=true):a=b:=by
 unfold ZT at h
 split at h<;>first | rfl | skip
 ·rw [lN.1 h]
 ·obtain ⟨h1,h2⟩:=aB h;rw [kH h1,JG h2]
 ·obtain ⟨h1,h2⟩:=aB h;rw [beq_iff.1 h1,beq_iff.1 h2]
 ·obtain ⟨h1,h2⟩:=aB h;rw [eqB h1,beq_iff.1 h2]
 ·obtain ⟨h1,h2⟩:=aB h
  obtain ⟨h3,h4⟩:=aB h1
  obtain ⟨h5,h6⟩:=aB h2
  obtain ⟨h7,h8⟩:=aB h6
  rw [eqB h3,beq_iff.1 h4,beq_iff.1 h5,beq_iff.1 h7,JF h8]
 ·rw [eqB h]
 ·rw [beq_iff.1 h]
 ·cases h
theorem oP:∀ {a b:List V},FI a b=true→a=b
 | [],[],_=>rfl
 | [],_::_,h=>by cases h
 | _::_,[],h=>by cases h
 | x::a,y::b,h=>by
   obtain ⟨h1,h2⟩:=aB (show and (ZT x y) (FI a b)=true from h)
   rw [Ho h1,oP h2]
theorem NG {a b:V} (h:eqW a b=true):a=b:=by
 cases a with
 | agg xs=>cases b<;>first | (rw [oP (show FI xs _=true from h)]) | exact absurd h (by simp [eqW,asAgg])
 | tup xs=>cases b<;>first | (rw [oP (show FI xs _=true from h)]) | exact absurd h (by simp [eqW,asAgg,EK])
 | fn f xs ys=>
   cases b with
   | fn f' xs' ys'=>
     obtain ⟨h1,h2⟩:=aB (show and (Nat.beq f f') (and (FI xs xs') (FI ys ys'))=true from h)
     obtain ⟨h3,h4⟩:=aB h2
     rw [beq_iff.1 h1,oP h3,oP h4]
   | _=>exact absurd (show false=true from h) (by decide)
 | _=>exact Ho h
section
variable {P:Program} {T:Nat→TE} {w0:World} {ng:Nat}
theorem NR {o:Oper} {h:H} (hq:HQ P T w0 ng o h) {call:Cl} (hc:iT P T w0 ng call) {back:Nat} {hs:List (Tr Obj×B)} {vals:List V} {t:Tr Obj} {nx:B} {K:KV} {r:R} (hr:∀ n,R.bad n≠r) (hh:Ae back hs h T call vals t nx K=r) :
  ∃ v,K v t nx=r∧∀ i,i≤back→∃ x:Tr Obj×B,hs[i]?=some x∧QT P T w0 ng o vals x.1 x.2 v:=by
 cases hs with
 | nil=>exact absurd hh (hr _)
 | cons h0 hs=>
   obtain ⟨v,k1,k2⟩:=hq call hc vals h0.1 h0.2 _ r hr hh
   have key:∀ (n:Nat) (hs:List (Tr Obj×B)) (e:R),ahn n hs (fun t' nx' e=>h T call vals t' nx' fun v' _ _=>aI (eqW v v') e (.bad 131)) e=r→e=r∧∀ i,i<n→∃ x:Tr Obj×B,hs[i]?=some x∧QT P T w0 ng o vals x.1 x.2 v:=by
    intro n
    induction n with
    | zero=>intro hs e he;exact ⟨he,fun i hi=>by omega⟩
    | succ n ih=>
      intro hs e he
      cases hs with
      | nil=>exact absurd he (hr _)
      | cons x hs=>
        obtain ⟨v',q1,q2⟩:=hq call hc vals x.1 x.2 _ r hr he
        obtain ⟨q3,q4⟩:=aG q1 (hr _)
        have:=NG q3
        subst this
        obtain ⟨q5,q6⟩:=ih hs e q4
        refine ⟨q5,fun i hi=>?_⟩
        cases i with
        | zero=>exact ⟨x,rfl,q2⟩
        | succ i=>obtain ⟨y,y1,y2⟩:=q6 i (by omega);exact ⟨y,by simpa using y1,y2⟩
   obtain ⟨q5,q6⟩:=key back hs _ k1
   refine ⟨v,q5,fun i hi=>?_⟩
   cases i with
   | zero=>exact ⟨h0,rfl,k2⟩
   | succ i=>obtain ⟨y,y1,y2⟩:=q6 i (by omega);exact ⟨y,by simpa using y1,y2⟩
structure Reg (T:Nat→TE) (w0:World) (ng:Nat) (b:Nat) (g:Gh) (hp:B→Option Obj) (t:Tr Obj) (nx:B) (w:World) (g':Gh) (hp':B→Option Obj) (t':Tr Obj) (nx':B):Prop where
 ext:Ext g g' nx.num
 le:nx.num≤nx'.num
 hr:HR T w0 ng g' hp' nx' w
 sub:Sub t' hp'
 fr:Fr t nx hp hp'
 dm:Dm t nx t'
 pl:∀ id o,B.get id t'=some o→(B.get id t=some o∧g' id=g id)∨(g' id).b=b
 pl2:∀ id o,hp' id=some o→(hp id=some o∧g' id=g id)∨(nx.num≤id.num∧(g' id).b=b)
def N7 (P:Program) (T:Nat→TE) (w0:World) (ng:Nat) (o:Oper) (vals:List V) (t:Tr Obj) (nx:B) (x:V) (t':Tr Obj) (nx':B):Prop:=
 ∀ (g:Gh) (n:Nat) (ρ:Operand→Value) (w:World),RVL g n vals (o.op.operands.toList.map ρ)→∃ u ob,(execOp ρ o).run P w = .ok (.value u) (w.alloc ob) ∧
   ∀ g1 hp1 w1,HR T w0 ng g1 hp1 nx w1→Sub t hp1→Ext g g1 n→n≤nx.num→w1.heap[w.heap.size]?=some ob→w0.heap.size≤w.heap.size→(∀ id o,hp1 id=some o→(g1 id).b≠w.heap.size) →
     ∃ g' hp',Reg T w0 ng w.heap.size g1 hp1 t nx w1 g' hp' t' nx'∧RV g' nx'.num x u
theorem Like.refl {ng:Nat} (w:World):Like ng w w:=⟨rfl,rfl,rfl,Nat.le_refl _,fun _=>Nat.le_refl _⟩
theorem Reg.new {g:Gh} {hp:B→Option Obj} {t:Tr Obj} {nx:B} {w:World} (h:HR T w0 ng g hp nx w) (hs:Sub t hp) {b n:Nat} (hb:w0.heap.size≤b) (hfree:∀ id o,hp id=some o→(g id).b≠b) {o:Obj} (hobj:lV T (dR g nx ⟨b,0,n⟩) nx.inc.num w nx o) :
  Reg T w0 ng b g hp t nx w (dR g nx ⟨b,0,n⟩) (fA hp nx (some o)) (nx.put t (some o)) nx.inc:=by
 have hnx:=B.gV nx
 refine ⟨pz (Nat.le_refl _),by omega,h.add (Like.refl w) (fun _ _ _=>rfl) hb hfree hobj h.ngx,rU hs _ _,fun id hi hn=>?_,fun id hi hn=>?_,fun id o' h1=>?_,fun id o' h1=>?_⟩
 ·unfold fA
  rw [if_neg (fun e=>by rw [e] at hi;omega)]
 ·rw [B.get_put,if_neg (fun e=>by rw [e] at hi;omega)];exact hn
 ·rw [B.get_put] at h1
  unfold dR
  split at h1
  ·rename_i e;rw [if_pos e];exact .inr rfl
  ·rename_i e;rw [if_neg e];exact .inl ⟨h1,rfl⟩
 ·unfold fA at h1
  unfold dR
  split at h1
  ·rename_i e;rw [if_pos e];exact .inr ⟨by rw [e];exact Nat.le_refl _,rfl⟩
  ·rename_i e;rw [if_neg e];exact .inl ⟨h1,rfl⟩
theorem Reg.refl {g:Gh} {hp:B→Option Obj} {t:Tr Obj} {nx:B} {w:World} (h:HR T w0 ng g hp nx w) (hs:Sub t hp) (b:Nat):Reg T w0 ng b g hp t nx w g hp t nx:=
 ⟨.refl _ _,Nat.le_refl _,h,hs,fun _ _ _=>rfl,fun _ _ h=>h,fun _ _ h => .inl ⟨h,rfl⟩,fun _ _ h => .inl ⟨h,rfl⟩⟩
theorem Qu {g:Gh} {hp:B→Option Obj} {t:Tr Obj} {nx:B} {w:World} (h:HR T w0 ng g hp nx w) (hs:Sub t hp) {b:Nat} (hb:w0.heap.size≤b) (hfree:∀ id o,hp id=some o→(g id).b≠b) {cur:Array Value} {Tb:TypeId}
  (hw:w.heap[b]?=some (.cells cur Tb (0,0))) {cs:Tr V} {m:Nat} (hc:CR g nx.num cs cur) (hm:m≤cur.size) (hlt:∀ j v,(bOf j).get cs=some v→j<m) :
  Reg T w0 ng b g hp t nx w (dR g nx ⟨b,0,cur.size⟩) (fA hp nx (some (.blk false m m cs))) (nx.put t (some (.blk false m m cs))) nx.inc:=by
 have hext:Ext g (dR g nx ⟨b,0,cur.size⟩) nx.num:=pz (Nat.le_refl _)
 have hgn:dR g nx ⟨b,0,cur.size⟩ nx=⟨b,0,cur.size⟩:=by simp [dR]
 refine .new h hs hb hfree ⟨cur,Tb,(0,0),by rw [hgn];exact hw,fun _=>rfl,by rw [hgn];simp,by rw [hgn];exact hm,fun j v hv=>?_⟩
 obtain ⟨u,h1,h2,h3⟩:=hc j v hv
 exact ⟨hlt j v hv,u,by rw [hgn];simpa using h1,h2.mono hext (by rw [B.gV];omega),h3⟩
theorem Vz (hT:TOK P T) {o:Oper} {ty:Nat} (ho:o.op = .alloc ty) {call:Cl} {vals:List V} {t:Tr Obj} {nx:B} {K:KV} {r:R} (hr:∀ n,R.bad n≠r) (h:PK ty T call vals t nx K=r) :
  ∃ v t' nx',K v t' nx'=r∧N7 P T w0 ng o vals t nx v t' nx':=by
 obtain ⟨hkn,k1⟩:=aG h (hr _)
 obtain ⟨h1,k2⟩:=CX hr k1
 obtain ⟨d,i,hf⟩:=hT.facts (Abs.TE.aK hkn)
 refine ⟨_,_,_,k2,fun g n ρ w _=>⟨_,.cells (T ty).zero.cells ty,by simp [execOp,ho,Instr.alloc,zeroValue,typeInfo,hf.info,hf.zero,newVar,Go.newRow];rfl,fun g1 hp1 w1 e1 e2 e3 e4 e5 e6 e7=>?_⟩⟩
 have hv:=tZ g1 nx.num (T ty).zero
 obtain ⟨q1,q2⟩:=hv.cells h1
 have hc:CR g1 nx.num (eu (cellsOf (cV (T ty).zero)) .lf 0) (T ty).zero.cells:=CR.AU (us:=(T ty).zero.cells.toList) (by simpa using q1) (fun i c x hc hx=>q2 i c x hc (by simpa using hx)) (fun i hi=>by simp)
 refine ⟨_,_,Qu e1 e2 e6 e7 e5 hc (m:=(cellsOf (cV (T ty).zero)).length) (by omega) (wQ RD (by omega)),?_⟩
 have:=RV.ptr (g:=dR g1 nx ⟨w.heap.size,0,(T ty).zero.cells.size⟩) (n:=nx.inc.num) nx 0 (by rw [B.gV];omega)
 simpa [dR] using this
theorem MV {o:Oper} {ty:Nat} (ho:o.op = .makeMap ty none) {call:Cl} {vals:List V} {t:Tr Obj} {nx:B} {K:KV} {r:R} (hr:∀ n,R.bad n≠r) (h:Dw ty T call vals t nx K=r) :
  ∃ v t' nx',K v t' nx'=r∧N7 P T w0 ng o vals t nx v t' nx':=by
 obtain ⟨kt,et,hk,k1⟩:=wZ h (hr _)
 rw [B.eP,B.Jl] at k1
 refine ⟨_,_,_,k1,fun g n ρ w _=>⟨_,.map #[] 0,by simp [execOp,ho,Instr.makeMap,newObj,Sem.run];rfl,fun g1 hp1 w1 e1 e2 e3 e4 e5 e6 e7=>?_⟩⟩
 refine ⟨_,_,Reg.new (n:=0) e1 e2 e6 e7 (o := .map kt []) ⟨#[],0,by simp only [dR,if_true];exact e5,rfl,fun i m e hm=>by simp at hm,fun e he=>by simp at he,by simp [Stamped]⟩,?_⟩
 have:=RV.map (g:=dR g1 nx ⟨w.heap.size,0,0⟩) (n:=nx.inc.num) nx (by rw [B.gV];omega)
 simpa [dR] using this
theorem DJ (hT:TOK P T) {o:Oper} {t len:Nat} {ps:Array (Nat×Operand)} (ho:o.op = .buildSlice t len ps) {call:Cl} {vals:List V} {hh:Tr Obj} {nx:B} {K:KV} {r:R} (hr:∀ n,R.bad n≠r) (h:qO t len ps.toList T call vals hh nx K=r) :
  ∃ v t' nx',K v t' nx'=r∧N7 P T w0 ng o vals hh nx v t' nx':=by
 obtain ⟨e,he,k1⟩:=eU h (hr _)
 obtain ⟨b1,k2⟩:=aG k1 (hr _)
 obtain ⟨hkn,b2⟩:=aB b1
 obtain ⟨hpos,hbig⟩:=aB b2
 have hpos':=aO.1 hpos
 have hbig':len*(T e).size≤16777216:=aX.1 hbig
 have hu:=hT.slc (jZ he)
 obtain ⟨d,i,hf⟩:=hT.facts (Abs.TE.aK hkn)
 have hzs:(T e).zero.cells.size=(T e).size:=hf.jf
 rw [jm] at k2
 split at k2
 ·rename_i hl
  subst hl
  cases hps:ps.toList with
  | cons p q=>rw [hps] at k2;exact absurd k2 (hr _)
  | nil=>
    rw [hps] at k2
    have hp0:ps=#[]:=Array.toList_eq_nil_iff.1 hps
    subst hp0
    refine ⟨_,_,_,k2,fun g n ρ w g3=>?_⟩
    have hrun:(execOp ρ o).run P w = .ok (.value (.slice (some ⟨w.heap.size,0,none⟩) 0 0)) (w.alloc (.cells #[] e)):=by
     simp [execOp,ho,Instr.buildSlice,run_underlying hu,hf.sizeOf,Go.newRow,Instr.fill,Array.range_zero']
    exact ⟨_,_,hrun,fun g1 hp1 w1 e1 e2 _ _ _ _ _=>⟨_,_,.refl e1 e2 _,.gI _⟩⟩
 ·rename_i hl
  obtain ⟨cs0,k3,z1,z2⟩:=BG k2 hr
  have hlen0:0<len:=Nat.pos_of_ne_zero hl
  have hne:len*(T e).size≠0:=by have:=Nat.mul_pos hlen0 hpos';omega
  have hin:yx (fun i=>aI (Nat.blt i len) (some (Nat.mul i (T e).size,(T e).size)) none) (len*(T e).size):=fun i o z h=>by
   simp only [aS] at h
   split at h
   ·rename_i hi
    simp at h
    obtain ⟨rfl,rfl⟩:=h
    have:=Nat.mul_le_mul_right (T e).size (show i+1≤len from aO.1 hi)
    rw [Nat.succ_mul] at this
    exact this
   ·cases h
  have hpl:∀ i p,(fun i=>aI (Nat.blt i len) (some (Nat.mul i (T e).size,(T e).size)) none) i=some p→(fun i=>some (i*(T e).size,(T e).size)) i=some p:=fun i p h=>by
   simp only [aS] at h
   split at h
   ·exact h
   ·cases h
  have run:∀ (ρ:Operand→Value) (w:World) arr',Instr.fill (fun i=>some (i*(T e).size,(T e).size)) (madeCells (T e).zero.cells (len*(T e).size)) (ps.toList.map fun p=>(p.1,ρ p.2))=some arr' →
    (execOp ρ o).run P w = .ok (.value (.slice (some ⟨w.heap.size,0,none⟩) len len)) (w.alloc (.cells arr' e)):=fun ρ w arr' hf'=>by
   have hbig2:¬ (16777216<len*(T e).size):=by omega
   have hz:(zeroValue e).run P w = .ok (T e).zero w:=by simp [zeroValue,typeInfo,hf.info,hf.zero]
   have hf2:Instr.fill (fun i=>some (i*(T e).size,(T e).size)) ((Array.range (len*(T e).size)).map (fun q=>(T e).zero.cells[q % (T e).zero.cells.size]!)) (ps.map fun (p:Nat×Operand)=>(p.1,ρ p.2)).toList=some arr':=by
    rw [lD];exact hf'
   simp [execOp,ho,Instr.buildSlice,run_underlying hu,hf.sizeOf,Go.newRow,hbig2,hne,hz]
   have f1'':=hf2
   simp only [Array.toList_map] at f1''
   simp [f1'']
  obtain ⟨csF,k5,k6,k7⟩:=jy hin hpl hr k3
  simp only [aH,gW] at k5
  refine ⟨_,_,_,k5,fun g n ρ w g3=>?_⟩
  obtain ⟨arr',f1,f2,f3⟩:=k7 g n ρ (madeCells (T e).zero.cells (len*(T e).size)) (by simpa [ho,Op.operands,Function.comp_def] using g3) (size_madeCells _ _) (z1 g n _ (fun i hi=>xg _ _ (by omega) i (by rw [← hzs];exact hi)))
  have f4:=k6 (by rw [← hzs];exact z2)
  refine ⟨_,_,run ρ w arr' f1,fun g1 hp1 w1 e1 e2 e3 e4 e5 e6 e7=>?_⟩
  refine ⟨_,_,Qu e1 e2 e6 e7 e5 (f3.mono e3 e4) (m:=len*(T e).size) (by omega) f4,?_⟩
  exact .sl nx (T e).size 0 len (some len) _ len (by rw [B.gV];omega) (Nat.le_refl _) (by simp only [maxL];have:=Nat.le_mul_of_pos_right len hpos';omega) (fun k hk=>by simpa using hk) hpos' (by simp [dR];omega) (fun _=>by simp [dR])
theorem Xx (hT:TOK P T) (o:Oper) (hz:Vp o.op=true) {call:Cl} {vals:List V} {t:Tr Obj} {nx:B} {K:KV} {r:R} (hr:∀ n,R.bad n≠r) (h:opH o.op ng T call vals t nx K=r):∃ v t' nx',K v t' nx'=r∧N7 P T w0 ng o vals t nx v t' nx':=by
 generalize hop:o.op=op at hz h
 cases op<;>try (cases hz;done)
 case alloc ty=>exact Vz (call:=call) hT hop hr h
 case makeMap ty x=>
  cases x with
  | none=>exact MV (call:=call) hop hr h
  | some y=>cases hz
 case buildSlice ty len ps=>exact DJ (call:=call) hT hop hr h
end
section
variable {P:Program} {T:Nat→TE} {w0:World} {ng:Nat}
structure rJ (P:Program) (T:Nat→TE) (w0:World) (ng:Nat) (all:List Oper) (x:Rec) (env env':Tr V) (h h':Tr Obj×B) (hs hs':List (Tr Obj×B)) (b:Bool) (v:V):Prop where
 at_:all[x.k]?=some x.o
 wd:Wd all ng env x.o b
 en:env'=ug x.o.dst env v
 no:b=false→v = .undef∧h'=h
 hh:hs'=if x.cl=2 then h'::hs else hs
 q:b=true→x.cl=0→h'=h∧∀ i,i≤x.back→∃ y:Tr Obj×B,hs[i]?=some y∧QT P T w0 ng x.o ((bC x.o.op).map (opV ng env)) y.1 y.2 v
 z:b=true→x.cl=1→N7 P T w0 ng x.o ((bC x.o.op).map (opV ng env)) h.1 h.2 v h'.1 h'.2
 c:b=true→x.cl=2→OpT P T w0 ng x.o ((bC x.o.op).map (opV ng env)) h.1 h.2 v h'.1 h'.2
def uF {α:Type} (a:α) (f:Nat→α):Nat→α | 0=>a | n+1=>f n
theorem Qq (hT:TOK P T) {call:Cl} (hc:iT P T w0 ng call) {all:List Oper} {ms:List Nat} {K:KE} {r:R} (hr:∀ n,R.bad n≠r):∀ {its:List DI} {rs:List Rec} {env:Tr V} {t:Tr Obj} {nx:B} {hs:List (Tr Obj×B)},recs all ms its=some rs→iL rs=true →
  Au its all T call ng env t nx hs K=r→∃ (E:Nat→Tr V) (H:Nat→Tr Obj×B) (hn:Nat→List (Tr Obj×B)) (b:Nat→Bool) (v:Nat→V),E 0=env∧H 0=(t,nx)∧hn 0=hs∧K (E rs.length) (H rs.length).1 (H rs.length).2=r ∧
   ∀ (p:Nat) x,rs[p]?=some x→ms[x.k]?=some x.mask∧x.looks=eG all x.o∧rJ P T w0 ng all x (E p) (E (p+1)) (H p) (H (p+1)) (hn p) (hn (p+1)) (b p) (v p)
 | [],rs,env,t,nx,hs,hrs,_,h=>by
   simp [recs] at hrs
   subst hrs
   exact ⟨fun _=>env,fun _=>(t,nx),fun _=>hs,fun _=>true,fun _ => .undef,rfl,rfl,rfl,h,fun p x hx=>by simp at hx⟩
 | it::its,rs,env,t,nx,hs,hrs,hone,h=>by
   unfold recs at hrs
   split at hrs
   case h_2=>cases hrs
   rename_i o m r' ho hm hr'
   simp at hrs
   subst hrs
   simp only [iL,Bool.and_eq_true] at hone
   obtain ⟨hx,hrest⟩:=hone
   have go:∀ (env1:Tr V) (t1:Tr Obj) (nx1:B) (hs1:List (Tr Obj×B)) (b1:Bool) (v1:V),Au its all T call ng env1 t1 nx1 hs1 K=r →
     rJ P T w0 ng all ⟨it.k,it.cl,it.back,o,eG all o,m⟩ env env1 (t,nx) (t1,nx1) hs hs1 b1 v1 →
     ∃ (E:Nat→Tr V) (H:Nat→Tr Obj×B) (hn:Nat→List (Tr Obj×B)) (b:Nat→Bool) (v:Nat→V),E 0=env∧H 0=(t,nx)∧hn 0=hs∧K (E (r'.length+1)) (H (r'.length+1)).1 (H (r'.length+1)).2=r ∧
       ∀ (p:Nat) x,(⟨it.k,it.cl,it.back,o,eG all o,m⟩::r')[p]?=some x→ms[x.k]?=some x.mask∧x.looks=eG all x.o∧rJ P T w0 ng all x (E p) (E (p+1)) (H p) (H (p+1)) (hn p) (hn (p+1)) (b p) (v p):=fun env1 t1 nx1 hs1 b1 v1 hrun hf=>by
    obtain ⟨E,H,hn,b,v,e1,e2,e3,e4,e5⟩:=Qq hT hc hr hr' hrest hrun
    refine ⟨uF env E,uF (t,nx) H,uF hs hn,uF b1 b,uF v1 v,rfl,rfl,rfl,e4,fun p x hxp=>?_⟩
    cases p with
    | zero=>
      simp at hxp
      subst hxp
      refine ⟨hm,rfl,?_⟩
      show rJ P T w0 ng all _ env (E 0) (t,nx) (H 0) hs (hn 0) b1 v1
      rw [e1,e2,e3];exact hf
    | succ p=>exact e5 p x (by simpa using hxp)
   cases it with
   | q k back=>
     obtain ⟨o',q1,q2⟩:=mM (show jJ k all _ _=r from h) (hr _)
     have:o'=o:=by rw [show (DI.q k back).k=k from rfl,q1] at ho;simpa using ho
     subst this
     have hq:isQ o'.op=true:=hx
     obtain ⟨b,hw,h1,h2⟩:=jH hr q2
     cases b with
     | false=>exact go _ _ _ _ false .undef (h2 rfl) ⟨q1,hw,rfl,fun _=>⟨rfl,rfl⟩,rfl,fun e=>(by cases e),fun e=>(by cases e),fun e=>(by cases e)⟩
     | true=>
       obtain ⟨v,k1,k2⟩:=NR (adx (P:=P) (w0:=w0) (ng:=ng) hT o' hq) hc hr (h1 rfl)
       exact go _ _ _ _ true v k1 ⟨q1,hw,rfl,fun e=>(by cases e),rfl,fun _ _=>⟨rfl,k2⟩,fun _ e=>(by cases e),fun _ e=>(by cases e)⟩
   | z k=>
     obtain ⟨o',q1,q2⟩:=mM (show jJ k all _ _=r from h) (hr _)
     have:o'=o:=by rw [show (DI.z k).k=k from rfl,q1] at ho;simpa using ho
     subst this
     have hz:Vp o'.op=true:=by
      simp only [CO,DI.cl,Bool.and_eq_true] at hx
      exact hx.1.1
     obtain ⟨b,hw,h1,h2⟩:=jH hr q2
     cases b with
     | false=>exact go _ _ _ _ false .undef (h2 rfl) ⟨q1,hw,rfl,fun _=>⟨rfl,rfl⟩,rfl,fun e=>(by cases e),fun e=>(by cases e),fun e=>(by cases e)⟩
     | true=>
       obtain ⟨v,t1,nx1,k1,k2⟩:=Xx (P:=P) (w0:=w0) hT o' hz hr (h1 rfl)
       exact go _ _ _ _ true v k1 ⟨q1,hw,rfl,fun e=>(by cases e),rfl,fun _ e=>(by cases e),fun _ _=>k2,fun _ e=>(by cases e)⟩
   | c k=>
     obtain ⟨o',q1,q2⟩:=mM (show jJ k all _ _=r from h) (hr _)
     have:o'=o:=by rw [show (DI.c k).k=k from rfl,q1] at ho;simpa using ho
     subst this
     obtain ⟨b,hw,h1,h2⟩:=jH hr q2
     cases b with
     | false=>exact go _ _ _ _ false .undef (h2 rfl) ⟨q1,hw,rfl,fun _=>⟨rfl,rfl⟩,rfl,fun e=>(by cases e),fun e=>(by cases e),fun e=>(by cases e)⟩
     | true=>
       obtain ⟨v,t1,nx1,k1,k2⟩:=CG (P:=P) (w0:=w0) hT o' call hc _ _ _ _ r hr (h1 rfl)
       exact go _ _ _ _ true v k1 ⟨q1,hw,rfl,fun e=>(by cases e),rfl,fun _ e=>(by cases e),fun _ e=>(by cases e),fun _ _=>k2⟩
   | f m n a b=>exact absurd h (hr _)
end
def chp (rs:List Rec):Nat→List Nat
 | 0=>[]
 | p+1=>match rs[p]? with | some x=>if x.cl=2 then p::chp rs p else chp rs p | none=>chp rs p
theorem su {rs:List Rec}:∀ {p q:Nat},q∈chp rs p↔q<p∧∃ x,rs[q]?=some x∧x.cl=2
 | 0,q=>by simp [chp]
 | p+1,q=>by
   unfold chp
   split
   ·rename_i x hx
    split
    ·rename_i hc
     rw [List.mem_cons,su]
     constructor
     ·rintro (rfl | ⟨h1,h2⟩)
      ·exact ⟨by omega,x,hx,hc⟩
      ·exact ⟨by omega,h2⟩
     ·rintro ⟨h1,h2⟩
      rcases Nat.lt_or_ge q p with h | h
      ·exact .inr ⟨h,h2⟩
      ·exact .inl (by omega)
    ·rename_i hc
     rw [su]
     constructor
     ·rintro ⟨h1,h2⟩;exact ⟨by omega,h2⟩
     ·rintro ⟨h1,y,h2,h3⟩
      rcases Nat.lt_or_ge q p with h | h
      ·exact ⟨h,y,h2,h3⟩
      ·have:q=p:=by omega
       subst this
       rw [hx] at h2
       cases h2
       exact absurd h3 hc
   ·rename_i hx
    rw [su]
    constructor
    ·rintro ⟨h1,h2⟩;exact ⟨by omega,h2⟩
    ·rintro ⟨h1,y,h2,h3⟩
     rcases Nat.lt_or_ge q p with h | h
     ·exact ⟨h,y,h2,h3⟩
     ·have:q=p:=by omega
      subst this
      rw [hx] at h2
      cases h2
theorem VL {rs:List Rec}:∀ {p i j q q':Nat},(chp rs p)[i]?=some q→(chp rs p)[j]?=some q'→q'≤q→i≤j:=by
 intro p
 induction p with
 | zero=>intro i j q q' h;simp [chp] at h
 | succ p ih=>
   intro i j q q' h1 h2 hle
   unfold chp at h1 h2
   split at h1
   ·split at h1
    ·rename_i x hx hc
     simp only [hx,hc,if_true] at h2
     cases i with
     | zero=>omega
     | succ i=>
       cases j with
       | zero=>
         simp at h1 h2
         have:=(su.1 (List.mem_of_getElem? h1)).1
         omega
       | succ j=>have:=ih (by simpa using h1) (by simpa using h2) hle;omega
    ·rename_i x hx hc
     simp only [hx,hc,if_false] at h2
     exact ih h1 h2 hle
   ·rename_i hx
    simp only [hx] at h2
    exact ih h1 h2 hle
def kAt (rs:List Rec) (q:Nat):Nat:=match rs[q]? with | some y=>y.k | none=>0
theorem Ad {rs:List Rec}:∀ {r2 r1:List Rec},rs=r1++r2→backOk ((chp rs r1.length).map (kAt rs)) r2=true →
  ∀ (j:Nat) x,r2[j]?=some x→x.cl=0→match (chp rs (r1.length+j))[x.back]? with | some q=>iQ (kAt rs q) x=true | none=>x.back=(chp rs (r1.length+j)).length
 | [],_,_,_,j,x,h,_=>by simp at h
 | z::r2,r1,he,h,j,x,hx,hc=>by
   simp only [backOk,Bool.and_eq_true] at h
   obtain ⟨h1,h2⟩:=h
   cases j with
   | zero=>
     simp at hx
     subst hx
     rw [hc] at h1
     simp only [List.getElem?_map] at h1
     rw [Nat.add_zero]
     cases hg:(chp rs r1.length)[z.back]? with
     | none=>rw [hg] at h1;simp at h1;simpa using h1
     | some q=>rw [hg] at h1;simpa using h1
   | succ j=>
     have hz:rs[r1.length]?=some z:=by rw [he];simp
     have h2':backOk ((chp rs (r1++[z]).length).map (kAt rs)) r2=true:=by
      rw [List.length_append,List.length_singleton]
      simp only [chp,hz]
      split at h2
      ·rename_i h3;rw [if_pos h3];simpa [kAt,hz] using h2
      ·rename_i h3;rw [if_neg h3];exact h2
     have:=Ad (r2:=r2) (r1:=r1++[z]) (by rw [he];simp) h2' j x (by simpa using hx) hc
     rw [List.length_append,List.length_singleton,Nat.add_assoc,Nat.add_comm 1 j] at this
     exact this
theorem wo {d:Nat}:∀ {r:List Rec} {w0:Option Nat},zOk d w0 r=true→∀ (j:Nat) y,r[j]?=some y→d∈y.looks →
  (∃ w,w0=some w∧iQ w y=true)∨∃ (w:Nat) (c:Rec),w≤j∧r[w]?=some c∧c.cl=2∧(w=j∨iQ c.k y=true)
 | [],_,_,j,y,h,_=>by simp at h
 | z::r,none,h,j,y,hy,hd=>by
   simp only [zOk] at h
   split at h
   ·rename_i hz
    have hz:=beq_iff.1 hz
    cases j with
    | zero=>simp at hy;exact .inr ⟨0,z,Nat.le_refl _,rfl,hz,.inl rfl⟩
    | succ j=>
      rcases wo h j y (by simpa using hy) hd with ⟨w,e,hw⟩ | ⟨w,c,h1,h2,h3,h4⟩
      ·cases e;exact .inr ⟨0,z,Nat.zero_le _,rfl,hz,.inr hw⟩
      ·exact .inr ⟨w+1,c,by omega,by simpa using h2,h3,h4.imp (by omega) id⟩
   ·simp only [Bool.and_eq_true,Bool.not_eq_true'] at h
    cases j with
    | zero=>
      simp at hy
      subst hy
      have:=fH.2 hd
      rw [h.1] at this;cases this
    | succ j=>
      rcases wo h.2 j y (by simpa using hy) hd with ⟨w,e,_⟩ | ⟨w,c,h1,h2,h3,h4⟩
      ·cases e
      ·exact .inr ⟨w+1,c,by omega,by simpa using h2,h3,h4.imp (by omega) id⟩
 | z::r,some w,h,j,y,hy,hd=>by
   simp only [zOk,Bool.and_eq_true,Bool.or_eq_true,Bool.not_eq_true'] at h
   cases j with
   | zero=>
     simp at hy
     subst hy
     rcases h.1 with h1 | h1
     ·rw [fH.2 hd] at h1;cases h1
     ·exact .inl ⟨w,rfl,h1⟩
   | succ j=>
     rcases wo h.2 j y (by simpa using hy) hd with h1 | ⟨w',c,h1,h2,h3,h4⟩
     ·exact .inl h1
     ·exact .inr ⟨w'+1,c,by omega,by simpa using h2,h3,h4.imp (by omega) id⟩
section
variable (P:Program) (T:Nat→TE) (w0:World) (ng nt:Nat) (ops:List Oper) (ms:List Nat) (rs:List Rec) (E:Nat→Tr V) (H:Nat→Tr Obj×B) (hn:Nat→List (Tr Obj×B)) (b:Nat→Bool) (v:Nat→V)
structure Can:Prop where
 pair:NW vF rs=true
 cl3:∀ (p:Nat) x,rs[p]?=some x→x.cl<3
 ones:iL rs=true
 back:∀ (p:Nat) x,rs[p]?=some x→x.cl=0→match (chp rs p)[x.back]? with | some q=>iQ (kAt rs q) x=true | none=>x.back=(chp rs p).length
 cover:∀ k,k<ops.length→∃ (p:Nat) (x:Rec),rs[p]?=some x∧x.k=k
 mks:rO ops ms
 tf:∀ (p:Nat) x,rs[p]?=some x→ms[x.k]?=some x.mask∧x.looks=eG ops x.o∧rJ P T w0 ng ops x (E p) (E (p+1)) (H p) (H (p+1)) (hn p) (hn (p+1)) (b p) (v p)
 hd:∀ o∈ops,∀ d,o.dst=some d→d<nt
 hs:∀ p,p≤rs.length→hn p=(chp rs p).map (fun q=>H (q+1))++[H 0]
def Lk (listed:Array Bool) (k:Nat):Prop:=listed.getD k false=true
structure adn (wS:World) (g:Gh) (hp:B→Option Obj) (n:Nat) (a:Act) (w:World) (p:Nat) (x:Rec) (bl:Nat):Prop where
 lo:wS.heap.size≤bl
 hi:bl<w.heap.size
 free:∀ id o,hp id=some o→(g id).b≠bl
 reg:∃ d ob ge ne,x.o.dst=some d∧w.heap[bl]?=some ob∧Ext ge g ne∧ne≤n ∧
  ∀ g1 hp1 w1,HR T w0 ng g1 hp1 (H p).2 w1→Sub (H p).1 hp1→Ext ge g1 ne→ne≤(H p).2.num→w1.heap[bl]?=some ob→(∀ id o,hp1 id=some o→(g1 id).b≠bl) →
    ∃ g' hp',Reg T w0 ng bl g1 hp1 (H p).1 (H p).2 w1 g' hp' (H (p+1)).1 (H (p+1)).2∧RV g' (H (p+1)).2.num (v p) (a.tmps.getD d Go.undef)
structure Inv (ds:List Deferred) (g0:Gh) (hp0:B→Option Obj) (wS:World) (listed:Array Bool) (a:Act) (w:World) (r:Nat) (g:Gh) (hp:B→Option Obj) (bl:Nat→Nat):Prop where
 rN:r≤rs.length
 size:listed.size=ops.length
 closed:Closed ops (Lk listed)
 low:∀ (p:Nat) x,p<r→rs[p]?=some x→Lk listed x.k
 high:∀ (p:Nat) x,r≤p→rs[p]?=some x→x.cl=2→¬ Lk listed x.k
 step:Step T w0 ng g0 hp0 (H 0).1 (H 0).2 wS g hp (H r).1 (H r).2 w
 defers:a.defers=ds
 jg:a.tmps.size=nt
 env:∀ p,p≤rs.length→(∀ x,rs[p]?=some x→¬ Lk listed x.k)→∀ t,(∀ x,rs[p]?=some x→t∈x.looks)→(∀ (j:Nat) y,j<p→rs[j]?=some y→y.o.dst=some t→Lk listed y.k∧(y.cl=1→j<r)) →
  ∀ u,(bOf t).get (E p)=some u→RV g (H r).2.num u (a.tmps.getD t Go.undef)
 pend:∀ (p:Nat) x,r≤p→rs[p]?=some x→x.cl=1→Lk listed x.k→adn T w0 ng H v wS g hp (H r).2.num a w p x (bl p)
 dist:∀ (p p':Nat) x x',r≤p→r≤p'→rs[p]?=some x→rs[p']?=some x'→x.cl=1→x'.cl=1→Lk listed x.k→Lk listed x'.k→p≠p'→bl p≠bl p'
end
section
variable {ds:List Deferred} {P:Program} {T:Nat→TE} {w0:World} {ng nt:Nat} {ops:List Oper} {ms:List Nat} {rs:List Rec} {E:Nat→Tr V} {H:Nat→Tr Obj×B} {hn:Nat→List (Tr Obj×B)} {b:Nat→Bool} {v:Nat→V}
theorem F5 {d d':Option Nat}:WC d d'=true↔∃ t,d=some t∧d'=some t:=by
 cases d with
 | none=>exact ⟨fun h=>(by cases h),fun ⟨t,h,_⟩=>(by cases h)⟩
 | some d=>
   cases d' with
   | none=>exact ⟨fun h=>(by cases h),fun ⟨t,_,h⟩=>(by cases h)⟩
   | some d'=>exact ⟨fun h=>⟨d,rfl,by rw [beq_iff.1 h]⟩,fun ⟨t,h,h'⟩=>by cases h;cases h';exact beq_iff.2 rfl⟩
theorem Dq {d:Option Nat} {l:List Nat}:Vq d l=true↔∃ t,d=some t∧t∈l:=by
 cases d with
 | none=>simp [Vq]
 | some d=>simp [Vq,fH]
theorem Vd {x y:Rec} (h:vF x y=true):x.k≠y.k∧(iQ x.k y=true∨((∀ t,x.o.dst=some t→t∉y.looks)∧(∀ t,x.o.dst=some t→y.o.dst≠some t)∧∀ t,y.o.dst=some t→t∉x.looks)) ∧
  (y.cl=2→iQ x.k y=true)∧((x.cl=1∨y.cl=1)→∀ t,x.o.dst=some t→y.o.dst≠some t):=by
 unfold vF at h
 simp only [Bool.and_eq_true,Bool.or_eq_true,Bool.not_eq_true'] at h
 obtain ⟨⟨⟨h1,h2⟩,h3⟩,h4⟩:=h
 have c1:x.k≠y.k:=fun e=>by rw [e,Nat.beq_refl] at h1;cases h1
 have c2:iQ x.k y=true∨((∀ t,x.o.dst=some t→t∉y.looks)∧(∀ t,x.o.dst=some t→y.o.dst≠some t)∧∀ t,y.o.dst=some t→t∉x.looks):=by
  rcases h2 with h2 | ⟨⟨h5,h6⟩,h7⟩
  ·exact .inl h2
  ·refine .inr ⟨fun t ht hm=>?_,fun t ht he=>?_,fun t ht hm=>?_⟩
   ·rw [Dq.2 ⟨t,ht,hm⟩] at h5;cases h5
   ·rw [F5.2 ⟨t,ht,he⟩] at h6;cases h6
   ·rw [Dq.2 ⟨t,ht,hm⟩] at h7;cases h7
 have c3:y.cl=2→iQ x.k y=true:=fun e=>by
  rcases h3 with h3 | h3
  ·rw [e] at h3;cases h3
  ·exact h3
 have c4:(x.cl=1∨y.cl=1)→∀ t,x.o.dst=some t→y.o.dst≠some t:=fun e t ht he=>by
  rcases h4 with ⟨h5,h6⟩ | h4
  ·rcases e with e | e
   ·rw [e] at h5;cases h5
   ·rw [e] at h6;cases h6
  ·rw [F5.2 ⟨t,ht,he⟩] at h4;cases h4
 exact ⟨c1,c2,c3,c4⟩
theorem Can.pr (hC:Can P T w0 ng nt ops ms rs E H hn b v) {i j:Nat} {x y:Rec} (hij:i<j) (hx:rs[i]?=some x) (hy:rs[j]?=some y) :
  x.k≠y.k∧(iQ x.k y=true∨((∀ t,x.o.dst=some t→t∉y.looks)∧(∀ t,x.o.dst=some t→y.o.dst≠some t)∧∀ t,y.o.dst=some t→t∉x.looks)) ∧
  (y.cl=2→iQ x.k y=true)∧((x.cl=1∨y.cl=1)→∀ t,x.o.dst=some t→y.o.dst≠some t):=Vd (Ij hC.pair i j x y hij hx hy)
theorem Can.keep (hC:Can P T w0 ng nt ops ms rs E H hn b v) {t i:Nat} (j:Nat):i≤j→j≤rs.length→(∀ (q:Nat) y,i≤q→q<j→rs[q]?=some y→y.o.dst≠some t)→(bOf t).get (E j)=(bOf t).get (E i):=by
 induction j with
 | zero=>
   intro h1 _ _
   have:i=0:=by omega
   subst this;rfl
 | succ j ih=>
   intro h1 h2 h3
   rcases Nat.lt_or_ge j i with h | h
   ·have:i=j+1:=by omega
    subst this;rfl
   ·have hj:j<rs.length:=by omega
    have hx:rs[j]?=some rs[j]:=List.getElem?_eq_getElem hj
    obtain ⟨_,_,hf⟩:=hC.tf j _ hx
    rw [hf.en,← ih h (by omega) fun q y hq hq'=>h3 q y hq (by omega)]
    have hne:=h3 j _ h (by omega) hx
    unfold ug
    cases hd:rs[j].o.dst with
    | none=>rfl
    | some d=>
      simp only
      rw [B.get_put,if_neg]
      intro e
      have:=ni e
      subst this
      exact hne hd
theorem Ext.sub {g g':Gh} {n m:Nat} (h:Ext g g' n) (hm:m≤n):Ext g g' m:=fun id hi=>h id (Nat.lt_of_lt_of_le hi hm)
theorem Step.reg {g0 g g':Gh} {hp0 hp hp':B→Option Obj} {t0 t t':Tr Obj} {nx0 nx nx':B} {wS w:World} {bl:Nat} (h:Step T w0 ng g0 hp0 t0 nx0 wS g hp t nx w) (hr:Reg T w0 ng bl g hp t nx w g' hp' t' nx') (hb:wS.heap.size≤bl) :
  Step T w0 ng g0 hp0 t0 nx0 wS g' hp' t' nx' w:=by
 refine ⟨h.ext.trans hr.ext h.le,Nat.le_trans h.le hr.le,hr.hr,hr.sub,fun id hi hn=>(hr.fr id (Nat.lt_of_lt_of_le hi h.le) (h.dm id hi hn)).trans (h.fr id hi hn),
  fun id hi hn=>hr.dm id (Nat.lt_of_lt_of_le hi h.le) (h.dm id hi hn),h.sz,h.dr,h.un,fun id o h1 h2=>?_,fun id o h1 h2=>?_⟩
 ·rcases hr.pl id o h1 with ⟨h3,h4⟩ | h3
  ·rw [h4];exact h.pl id o h3 h2
  ·exact .inl (by rw [h3];exact hb)
 ·rcases hr.pl2 id o h1 with ⟨h3,h4⟩ | ⟨_,h3⟩
  ·rw [h4];exact h.pl2 id o h3 h2
  ·exact .inl (by rw [h3];exact hb)
theorem Inv.advance (hC:Can P T w0 ng nt ops ms rs E H hn b v) {g0:Gh} {hp0:B→Option Obj} {wS:World} {listed:Array Bool} {a:Act} {w:World} {r:Nat} {g:Gh} {hp:B→Option Obj} {bl:Nat→Nat}
  (hI:Inv T w0 ng nt ops rs E H v ds g0 hp0 wS listed a w r g hp bl) {x:Rec} (hx:rs[r]?=some x) (hnc:x.cl≠2) (hl:Lk listed x.k) :
  ∃ g' hp',Inv T w0 ng nt ops rs E H v ds g0 hp0 wS listed a w (r+1) g' hp' bl∧(∀ id o,hp' id=some o→(hp id=some o∧g' id=g id)∨(g' id).b=bl r):=by
 have hrN:r<rs.length:=(List.getElem?_eq_some_iff.1 hx).1
 obtain ⟨hmk,hlk,hf⟩:=hC.tf r x hx
 have low':∀ (p:Nat) y,p<r+1→rs[p]?=some y→Lk listed y.k:=fun p y hp hy=>by
  rcases Nat.lt_or_ge p r with h | h
  ·exact hI.low p y h hy
  ·have:p=r:=by omega
   subst this
   rw [hx] at hy
   cases hy
   exact hl
 by_cases hz:x.cl=1
 ·obtain ⟨hlo,hhi,hfree,d,ob,ge,ne,hd,hob,hge,hne,hreg⟩:=hI.pend r x (Nat.le_refl _) hx hz hl
  obtain ⟨g',hp',hR,hv⟩:=hreg g hp w hI.step.hr hI.step.sub hge hne hob hfree
  have hids:∀ id o,hp' id=some o→(hp id=some o∧g' id=g id)∨(g' id).b=bl r:=fun id o h=>(hR.pl2 id o h).imp (fun q=>q) And.right
  refine ⟨g',hp',⟨by omega,hI.size,hI.closed,low',fun p y hp hy hc=>hI.high p y (by omega) hy hc,hI.step.reg hR hlo,hI.defers,hI.jg,fun p hp0 hu t ht hw u hg=>?_,fun p y hp1 hy hc hk=>?_,fun p p' y y' h1 h2=>hI.dist p p' y y' (by omega) (by omega)⟩,hids⟩
  ·by_cases hcase:r<p∧t=d
   ·obtain ⟨hrp,rfl⟩:=hcase
    have hkeep:=hC.keep (t:=t) (i:=r+1) p (by omega) hp0 fun q y hq1 hq2 hy he=>(hC.pr (show r<q by omega) hx hy).2.2.2 (.inl hz) t hd he
    rw [hkeep,hf.en] at hg
    simp only [hd,ug,B.cZ] at hg
    cases hg
    exact hv
   ·refine (hI.env p hp0 hu t ht (fun j y hj hy hdy=>⟨(hw j y hj hy hdy).1,fun h1=>?_⟩) u hg).mono hR.ext hR.le
    have:=(hw j y hj hy hdy).2 h1
    rcases Nat.lt_or_ge j r with h | h
    ·exact h
    ·have:j=r:=by omega
     subst this
     rw [hx] at hy
     cases hy
     rw [hd] at hdy
     cases hdy
     exact absurd ⟨hj,rfl⟩ hcase
  ·obtain ⟨plo,phi,pfree,pd,pob,pge,pne,q1,q2,q3,q4,q5⟩:=hI.pend p y (by omega) hy hc hk
   refine ⟨plo,phi,fun id o h=>?_,pd,pob,pge,pne,q1,q2,q3.trans (hR.ext.sub q4) (Nat.le_refl _),Nat.le_trans q4 hR.le,q5⟩
   rcases hids id o h with ⟨h1,h2⟩ | h1
   ·rw [h2];exact pfree id o h1
   ·rw [h1];exact hI.dist r p x y (Nat.le_refl _) (by omega) hx hy hz hc hl hk (by omega)
 ·have hH:H (r+1)=H r:=by
   cases hb:b r with
   | false=>exact (hf.no hb).2
   | true=>
     have:x.cl=0:=by have:=hC.cl3 r x hx;omega
     exact (hf.q hb this).1
  refine ⟨g,hp,⟨by omega,hI.size,hI.closed,low',fun p y hp hy hc=>hI.high p y (by omega) hy hc,by rw [hH];exact hI.step,hI.defers,hI.jg,fun p hp hu t ht hw u hg=>?_,fun p y hp hy hc hk=>by rw [hH];exact hI.pend p y (by omega) hy hc hk,fun p p' y y' h1 h2=>hI.dist p p' y y' (by omega) (by omega)⟩,fun id o h => .inl ⟨h,rfl⟩⟩
  rw [hH]
  refine hI.env p hp hu t ht (fun j y hj hy hd=>⟨(hw j y hj hy hd).1,fun h1=>?_⟩) u hg
  have:=(hw j y hj hy hd).2 h1
  rcases Nat.lt_or_ge j r with h | h
  ·exact h
  ·have:j=r:=by omega
   subst this
   rw [hx] at hy
   cases hy
   exact absurd h1 hz
theorem lW {listed:Array Bool} {k j:Nat} (hk:k<listed.size):Lk (listed.setIfInBounds k true) j↔j=k∨Lk listed j:=by
 unfold Lk
 by_cases h:k=j
 ·subst h;simp [hk]
 ·simp [Array.getElem?_setIfInBounds_ne h,Ne.symm h]
theorem get_put {a:Act} {nt:Nat} (hs:a.tmps.size=nt) {dst:Option Tmp} (hd:∀ d,dst=some d→d<nt) (u:Value) (t:Nat):(dst=some t→(a.put dst u).tmps.getD t Go.undef=u)∧(dst≠some t→(a.put dst u).tmps.getD t Go.undef=a.tmps.getD t Go.undef):=by
 cases dst with
 | none=>exact ⟨fun h=>(by cases h),fun _=>rfl⟩
 | some d=>
   refine ⟨fun h=>?_,fun h=>?_⟩
   ·cases h;simp [Act.put,hs,hd t rfl]
   ·have hne:d≠t:=fun e=>h (by rw [e])
    simp [Act.put,Array.getElem?_setIfInBounds_ne hne]
theorem acJ (hC:Can P T w0 ng nt ops ms rs E H hn b v) {listed:Array Bool} {a:Act} {r r':Nat} {g:Gh} {n:Nat}
  (henv:∀ p,p≤rs.length→(∀ x,rs[p]?=some x→¬ Lk listed x.k)→∀ t,(∀ x,rs[p]?=some x→t∈x.looks)→(∀ (j:Nat) y,j<p→rs[j]?=some y→y.o.dst=some t→Lk listed y.k∧(y.cl=1→j<r))→∀ u,(bOf t).get (E p)=some u→RV g n u (a.tmps.getD t Go.undef))
  (hsz:a.tmps.size=nt) {pm:Nat} {x:Rec} (hx:rs[pm]?=some x) (hk:x.k<listed.size) (hun:¬ Lk listed x.k) (hmask:∀ i,x.mask.testBit i=true→Lk listed i) (hlk:∀ (j:Nat) y,rs[j]?=some y→Lk listed y.k→∀ i,y.mask.testBit i=true→Lk listed i)
  (hd:∀ d,x.o.dst=some d→d<nt) {u:Value} (hu:RV g n (v pm) u) (hr':∀ (j:Nat) y,rs[j]?=some y→y.cl=1→j<r'→j<r) :
  ∀ p,p≤rs.length→(∀ y,rs[p]?=some y→¬ Lk (listed.setIfInBounds x.k true) y.k)→∀ t,(∀ y,rs[p]?=some y→t∈y.looks)→(∀ (j:Nat) y,j<p→rs[j]?=some y→y.o.dst=some t→Lk (listed.setIfInBounds x.k true) y.k∧(y.cl=1→j<r')) →
    ∀ u',(bOf t).get (E p)=some u'→RV g n u' ((a.put x.o.dst u).tmps.getD t Go.undef):=by
 intro p hp hpu t ht hw u' hg
 have hpmN:pm<rs.length:=(List.getElem?_eq_some_iff.1 hx).1
 obtain ⟨_,_,hf⟩:=hC.tf pm x hx
 have hpu':∀ y,rs[p]?=some y→¬ Lk listed y.k:=fun y hy h=>hpu y hy ((lW hk).2 (.inr h))
 have hppm:p≠pm:=fun e=>by subst e;exact hpu x hx ((lW hk).2 (.inl rfl))
 by_cases hdt:x.o.dst=some t
 ·rw [(get_put hsz hd u t).1 hdt]
  rcases Nat.lt_or_ge pm p with hlt | hge
  ·
   have hkeep:=hC.keep (t:=t) (i:=pm+1) p (by omega) hp fun q y hq1 hq2 hy he=>by
    have hpr:=hC.pr (show pm<q by omega) hx hy
    have hyl:Lk listed y.k:=by
     rcases (lW hk).1 (hw q y hq2 hy he).1 with h | h
     ·exact absurd h.symm hpr.1
     ·exact h
    rcases hpr.2.1 with h | ⟨_,h,_⟩
    ·exact hun (hlk q y hy hyl _ h)
    ·exact h t hdt he
   rw [hkeep,hf.en] at hg
   simp only [hdt,ug,B.cZ] at hg
   cases hg
   exact hu
  ·have hlt:p<pm:=by omega
   have hp2:rs[p]?=some rs[p]:=List.getElem?_eq_getElem (by omega)
   have hpr:=hC.pr hlt hp2 hx
   rcases hpr.2.1 with h | ⟨_,_,h⟩
   ·exact absurd (hmask _ h) (hpu' _ hp2)
   ·exact absurd (ht _ hp2) (h t hdt)
 ·rw [(get_put hsz hd u t).2 hdt]
  refine henv p hp hpu' t ht (fun j y hj hy hdy=>⟨?_,fun h1=>hr' j y hy h1 ((hw j y hj hy hdy).2 h1)⟩) u' hg
  rcases (lW hk).1 (hw j y hj hy hdy).1 with h | h
  ·have:j=pm:=by
    rcases Nat.lt_trichotomy j pm with h1 | h1 | h1
    ·exact absurd h (hC.pr h1 hy hx).1
    ·exact h1
    ·exact absurd h.symm (hC.pr h1 hx hy).1
   subst this
   rw [hx] at hy
   cases hy
   exact absurd hdy hdt
  ·exact h
theorem BU (hC:Can P T w0 ng nt ops ms rs E H hn b v) {listed:Array Bool} (hsz:listed.size=ops.length) (hcl:Closed ops (Lk listed)) {k:Nat} (h:k∈Region.ready .any ops.toArray listed) :
  ∃ (p:Nat) (x:Rec),rs[p]?=some x∧x.k=k∧¬ Lk listed k∧k<listed.size∧ops.toArray[k]?=some x.o∧(∀ i,x.mask.testBit i=true→Lk listed i)∧Closed ops (Lk (listed.setIfInBounds k true)):=by
 obtain ⟨h1,o,h2,h3⟩:=mem_ready.1 h
 have h2':ops[k]?=some o:=by simpa using h2
 have hk:k<listed.size:=by rw [hsz];exact (List.getElem?_eq_some_iff.1 h2').1
 obtain ⟨p,x,hx,hxk⟩:=hC.cover k (by omega)
 obtain ⟨hmk,_,hf⟩:=hC.tf p x hx
 have hat:=hf.at_
 rw [hxk] at hat hmk
 rw [h2'] at hat
 cases hat
 have hun:¬ Lk listed k:=fun hl=>by
  unfold Lk at hl
  simp [hk] at h1 hl
  rw [hl] at h1;cases h1
 refine ⟨p,x,hx,hxk,hun,hk,h2,Gn hC.mks hcl h2' hmk h3,fun j o' hj ho' e he hb=>?_⟩
 rcases (lW hk).1 hj with rfl | hj
 ·rw [h2'] at ho'
  cases ho'
  exact (lW hk).2 (.inr (h3 e he hb))
 ·exact (lW hk).2 (.inr (hcl j o' hj ho' e he hb))
theorem NM (hC:Can P T w0 ng nt ops ms rs E H hn b v) {listed:Array Bool} (hcl:Closed ops (Lk listed)) (j:Nat) (y:Rec) (hy:rs[j]?=some y) (hl:Lk listed y.k):∀ i,y.mask.testBit i=true→Lk listed i:=by
 obtain ⟨hmk,_,hf⟩:=hC.tf j y hy
 exact Gn hC.mks hcl hf.at_ hmk fun e he hb=>hcl y.k y.o hl hf.at_ e he hb
def Start (rs:List Rec) (r:Nat):Prop:=r=0∨∃ q x,r=q+1∧rs[q]?=some x∧x.cl=2
theorem Xn (hC:Can P T w0 ng nt ops ms rs E H hn b v) {listed:Array Bool} {r p:Nat} {x:Rec} (hst:Start rs r) (hrp:r≤p) (hhigh:∀ (p:Nat) x,r≤p→rs[p]?=some x→x.cl=2→¬ Lk listed x.k) (hx:rs[p]?=some x) (hc:x.cl=0) (hb:b p=true)
  (hmask:∀ i,x.mask.testBit i=true→Lk listed i):QT P T w0 ng x.o ((bC x.o.op).map (opV ng (E p))) (H r).1 (H r).2 (v p):=by
 have hp:p<rs.length:=(List.getElem?_eq_some_iff.1 hx).1
 obtain ⟨_,_,hf⟩:=hC.tf p x hx
 obtain ⟨_,hq⟩:=hf.q hb hc
 have hback:=hC.back p x hx hc
 have hs:=hC.hs p (by omega)
 have hlow:∀ q',(chp rs p)[x.back]?=some q'→q'<r:=fun q' h=>by
  rw [h] at hback
  obtain ⟨_,y,hy,hyc⟩:=su.1 (List.mem_of_getElem? h)
  have hl:=hmask _ hback
  unfold kAt at hl
  rw [hy] at hl
  rcases Nat.lt_or_ge q' r with h' | h'
  ·exact h'
  ·exact absurd hl (hhigh q' y h' hy hyc)
 have fin:∀ i,i≤x.back→(hn p)[i]?=some (H r)→QT P T w0 ng x.o ((bC x.o.op).map (opV ng (E p))) (H r).1 (H r).2 (v p):=fun i hi he=>by
  obtain ⟨y,h1,h2⟩:=hq i hi
  rw [he] at h1
  cases h1
  exact h2
 rcases hst with rfl | ⟨q,y,rfl,hy,hyc⟩
 ·have hnone:(chp rs p)[x.back]?=none:=by
   cases h:(chp rs p)[x.back]? with
   | none=>rfl
   | some q'=>have:=hlow q' h;omega
  rw [hnone] at hback
  refine fin (chp rs p).length (by simp only at hback;omega) ?_
  rw [hs,List.getElem?_append_right (by simp)]
  simp
 ·obtain ⟨i,hi⟩:=List.getElem?_of_mem (su.2 ⟨show q<p by omega,y,hy,hyc⟩)
  have hil:i<(chp rs p).length:=(List.getElem?_eq_some_iff.1 hi).1
  refine fin i ?_ ?_
  ·cases h:(chp rs p)[x.back]? with
   | none=>rw [h] at hback;simp only at hback;omega
   | some q'=>exact VL hi h (by have:=hlow q' h;omega)
  ·rw [hs,List.getElem?_append_left (by simpa using hil),List.getElem?_map,hi]
   rfl
theorem Inv.advances (hC:Can P T w0 ng nt ops ms rs E H hn b v) {g0:Gh} {hp0:B→Option Obj} {wS:World} {listed:Array Bool} {a:Act} {w:World} {q:Nat}:∀ (m:Nat) {r:Nat} {g:Gh} {hp:B→Option Obj} {bl:Nat→Nat},
  Inv T w0 ng nt ops rs E H v ds g0 hp0 wS listed a w r g hp bl→r+m=q→(∀ (p:Nat) x,r≤p→p<q→rs[p]?=some x→x.cl≠2∧Lk listed x.k)→q≤rs.length→∃ g' hp',Inv T w0 ng nt ops rs E H v ds g0 hp0 wS listed a w q g' hp' bl
 | 0,r,g,hp,bl,hI,hq,_,_=>by have:r=q:=by omega
                             subst this
                             exact ⟨g,hp,hI⟩
 | m+1,r,g,hp,bl,hI,hq,hall,hN=>by
   have hr:r<rs.length:=by omega
   obtain ⟨h1,h2⟩:=hall r _ (Nat.le_refl _) (by omega) (List.getElem?_eq_getElem hr)
   obtain ⟨g1,hp1,hI1,_⟩:=hI.advance hC (List.getElem?_eq_getElem hr) h1 h2
   exact Inv.advances hC m hI1 (by omega) (fun p x hp hpq hx=>hall p x (by omega) hpq hx) hN
theorem adn.keep {wS:World} {g g':Gh} {hp hp':B→Option Obj} {n n':Nat} {a a':Act} {w w':World} {p:Nat} {x:Rec} {bl:Nat} (h:adn T w0 ng H v wS g hp n a w p x bl) (hsz:w.heap.size≤w'.heap.size) (hw:w'.heap[bl]?=w.heap[bl]?)
  (hfree:∀ id o,hp' id=some o→(g' id).b≠bl) (he:Ext g g' n) (hn:n≤n') (ha:∀ d,x.o.dst=some d→a'.tmps.getD d Go.undef=a.tmps.getD d Go.undef):adn T w0 ng H v wS g' hp' n' a' w' p x bl:=by
 obtain ⟨h1,h2,h3,d,ob,ge,ne,q1,q2,q3,q4,q5⟩:=h
 exact ⟨h1,Nat.lt_of_lt_of_le h2 hsz,hfree,d,ob,ge,ne,q1,by rw [hw];exact q2,q3.trans (he.sub q4) (Nat.le_refl _),Nat.le_trans q4 hn,by rw [ha d q1];exact q5⟩
theorem Step.apart {g g':Gh} {hp hp':B→Option Obj} {t t':Tr Obj} {nx nx':B} {w w':World} (h:Step T w0 ng g hp t nx w g' hp' t' nx' w') (hs:Sub t hp) {bl:Nat} (hb:bl<w.heap.size) (hf:∀ id o,hp id=some o→(g id).b≠bl) :
  w'.heap[bl]?=w.heap[bl]?∧∀ id o,hp' id=some o→(g' id).b≠bl:=by
 refine ⟨h.un bl hb fun id o h1 _=>hf id o (hs id o h1),fun id o ho e=>?_⟩
 rcases Nat.lt_or_ge id.num nx.num with hi | hi
 ·have hg:=h.ext id hi
  cases ht:B.get id t with
  | none=>
    have:=h.fr id hi ht
    rw [ho] at this
    exact hf id o this.symm (by rw [← hg];exact e)
  | some o'=>exact hf id o' (hs id o' ht) (by rw [← hg];exact e)
 ·rcases h.pl2 id o ho hi with h1 | ⟨id0,o0,h1,h2⟩
  ·omega
  ·exact hf id0 o0 (hs id0 o0 h1) (h2.trans e)
noncomputable def wH (env:Tr V):List Nat→Tr V
 | [] => .lf
 | t::l=>(bOf t).put (wH env l) ((bOf t).get env)
theorem yU (env:Tr V):∀ (l:List Nat) (t:Nat),(bOf t).get (wH env l)=if t∈l then (bOf t).get env else none
 | [],t=>by simp [wH,B.bW]
 | s::l,t=>by
   rw [wH,B.get_put,yU env l t]
   by_cases h:t=s
   ·subst h;simp
   ·rw [if_neg (fun e=>h (ni e))]
    simp [h]
theorem Gl {env:Tr V} {l:List Nat} {x:Operand} (h:∀ t,x = .tmp t→t∈l):opV ng (wH env l) x=opV ng env x:=by
 cases x with
 | tmp t=>simp only [opV,yU,if_pos (h t rfl)]
 | _=>rfl
theorem CB {env:Tr V} {l:List Nat}:∀ {xs:List Operand},(∀ t,Operand.tmp t∈xs→t∈l)→xs.map (opV ng (wH env l))=xs.map (opV ng env)
 | [],_=>rfl
 | x::xs,h=>by rw [List.map_cons,List.map_cons,Gl (fun t e=>h t (by simp [e])),CB fun t ht=>h t (by simp [ht])]
theorem KR {env:Tr V} {o:Oper} {b:Bool} (h:Wd ops ng env o b):Wd ops ng (wH env (eG ops o)) o b:=by
 unfold Wd at h ⊢
 cases hg:o.guard with
 | none=>rw [hg] at h;exact h
 | some p=>
   obtain ⟨j,want⟩:=p
   rw [hg] at h
   obtain ⟨oj,d,h1,h2,h3⟩:=h
   refine ⟨oj,d,h1,h2,?_⟩
   rw [Gl (fun t e=>by cases e;simp [eG,akX,hg,h1,h2])]
   exact h3
theorem zJ {env:Tr V} {o:Oper}:(bC o.op).map (opV ng (wH env (eG ops o)))=(bC o.op).map (opV ng env):=
 CB fun t ht=>by simp [eG,vI ht]
end
end Go.Sim
