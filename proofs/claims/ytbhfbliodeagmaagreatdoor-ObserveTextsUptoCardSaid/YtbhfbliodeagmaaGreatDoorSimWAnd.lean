/- Sim: a call's run is told once and met again at other ids. -/
import Derived.Test.YtbhfbliodeagmaaGreatDoorSimN5And
import Derived.Laws.Externs
import Derived.Lib.Bytealg
set_option linter.all false
namespace Go.Sim
open Go Go.RowKit
open Go.Abs (TE TK SK TOK)
inductive dH (D:B→B→Prop):V→V→Prop
 | bool (b:Bool):dH D (.bool b) (.bool b)
 | int (k:IntKind) (m:Int):dH D (.int k m) (.int k m)
 | str (l m:Nat):dH D (.str l m) (.str l m)
 | dN:dH D .dN .dN
 | ptr (i j:B) (off:Nat):D i j→dH D (.ptr i off) (.ptr j off)
 | aj:dH D .aj .aj
 | gI:dH D .gI .gI
 | sl (i j:B) (sz off len:Nat) (cap:Option Nat):D i j→dH D (.sl i sz off len cap) (.sl j sz off len cap)
 | iw:dH D .iw .iw
 | map (i j:B):D i j→dH D (.map i) (.map j)
 | iF:dH D .iF .iF
 | fn (f:Nat) (fs fs' cs cs':List V):fs.length=fs'.length→(∀ (i:Nat) a b,fs[i]?=some a→fs'[i]?=some b→dH D a b)→cs.length=cs'.length→(∀ (i:Nat) a b,cs[i]?=some a→cs'[i]?=some b→dH D a b)→dH D (.fn f fs cs) (.fn f fs' cs')
 | iM:dH D .iM .iM
 | ifc (t:Nat) (v v':V):dH D v v'→dH D (.ifc t v) (.ifc t v')
 | agg (cs cs':List V):cs.length=cs'.length→(∀ (i:Nat) a b,cs[i]?=some a→cs'[i]?=some b→dH D a b)→dH D (.agg cs) (.agg cs')
 | tup (cs cs':List V):cs.length=cs'.length→(∀ (i:Nat) a b,cs[i]?=some a→cs'[i]?=some b→dH D a b)→dH D (.tup cs) (.tup cs')
 | any:dH D .any .any
def rM (D:B→B→Prop) (a b:List V):Prop:=a.length=b.length∧∀ (i:Nat) x y,a[i]?=some x→b[i]?=some y→dH D x y
theorem rM.nil {D:B→B→Prop}:rM D [] []:=⟨rfl,fun i x y h=>by simp at h⟩
theorem rM.cons {D:B→B→Prop} {x y:V} {a b:List V} (h:dH D x y) (hs:rM D a b):rM D (x::a) (y::b):=
 ⟨by simp [hs.1],fun i u v hu hv=>by
  cases i with
  | zero=>simp at hu hv;subst hu;subst hv;exact h
  | succ i=>simp at hu hv;exact hs.2 i u v hu hv⟩
theorem dH.mono {D D':B→B→Prop} (hD:∀ i j,D i j→D' i j) {a b:V} (h:dH D a b):dH D' a b:=by
 induction h with
 | bool b=>exact .bool b
 | int k m=>exact .int k m
 | str l m=>exact .str l m
 | dN=>exact .dN
 | ptr i j off h=>exact .ptr i j off (hD i j h)
 | aj=>exact .aj
 | gI=>exact .gI
 | sl i j sz off len cap h=>exact .sl i j sz off len cap (hD i j h)
 | iw=>exact .iw
 | map i j h=>exact .map i j (hD i j h)
 | iF=>exact .iF
 | fn f fs fs' cs cs' h1 _ h3 _ i1 i2=>exact .fn f fs fs' cs cs' h1 i1 h3 i2
 | iM=>exact .iM
 | ifc t v v' _ ih=>exact .ifc t v v' ih
 | agg cs cs' h _ ih=>exact .agg cs cs' h ih
 | tup cs cs' h _ ih=>exact .tup cs cs' h ih
 | any=>exact .any
theorem rM.mono {D D':B→B→Prop} (hD:∀ i j,D i j→D' i j) {a b:List V} (h:rM D a b):rM D' a b:=⟨h.1,fun i x y hx hy=>(h.2 i x y hx hy).mono hD⟩
theorem dH.symm {D:B→B→Prop} {a b:V} (h:dH D a b):dH (fun i j=>D j i) b a:=by
 induction h with
 | bool b=>exact .bool b
 | int k m=>exact .int k m
 | str l m=>exact .str l m
 | dN=>exact .dN
 | ptr i j off h=>exact .ptr j i off h
 | aj=>exact .aj
 | gI=>exact .gI
 | sl i j sz off len cap h=>exact .sl j i sz off len cap h
 | iw=>exact .iw
 | map i j h=>exact .map j i h
 | iF=>exact .iF
 | fn f fs fs' cs cs' h1 _ h3 _ i1 i2=>exact .fn f fs' fs cs' cs h1.symm (fun i a b ha hb=>i1 i b a hb ha) h3.symm (fun i a b ha hb=>i2 i b a hb ha)
 | iM=>exact .iM
 | ifc t v v' _ ih=>exact .ifc t v' v ih
 | agg cs cs' h _ ih=>exact .agg cs' cs h.symm fun i a b ha hb=>ih i b a hb ha
 | tup cs cs' h _ ih=>exact .tup cs' cs h.symm fun i a b ha hb=>ih i b a hb ha
 | any=>exact .any
theorem eH {α β:Type} {l:List α} {l':List β} (h:l.length=l'.length) {i:Nat} {x:α} (hx:l[i]?=some x):∃ y,l'[i]?=some y:=by
 have:=(List.getElem?_eq_some_iff.1 hx).1
 exact ⟨_,List.getElem?_eq_getElem (by omega)⟩
theorem dH.rv {D:B→B→Prop} {g g':Gh} {n n':Nat} (hD:∀ i j,D i j→j.num<n'→g i=g' j∧i.num<n) {a b:V} (h:dH D a b):∀ x,RV g' n' b x→RV g n a x:=by
 induction h with
 | bool b=>intro x hx;cases hx;exact .bool b
 | int k m=>intro x hx;cases hx;exact .int k m
 | str l m=>intro x hx;cases hx;exact .str _ (by assumption)
 | dN=>intro x hx;cases hx;exact .dN
 | ptr i j off h=>
   intro x hx
   cases hx with
   | ptr _ _ h1=>
     obtain ⟨e1,e2⟩:=hD i j h h1
     rw [← e1];exact .ptr i off e2
 | aj=>intro x hx;cases hx;exact .aj
 | gI=>intro x hx;cases hx;exact .gI _
 | sl i j sz off len cap h=>
   intro x hx
   cases hx with
   | sl _ _ _ _ _ a c h1 h2 h3 h4 h5 h6 h7=>
     obtain ⟨e1,e2⟩:=hD i j h h1
     exact .sl i sz off len cap a c e2 h2 h3 h4 h5 (by rw [e1];exact h6) (by rw [e1];exact h7)
 | iw=>intro x hx;cases hx;exact .iw
 | map i j h=>
   intro x hx
   cases hx with
   | map _ h1=>
     obtain ⟨e1,e2⟩:=hD i j h h1
     rw [← e1];exact .map i e2
 | iF=>intro x hx;cases hx;exact .iF
 | fn f fs fs' cs cs' h1 _ h3 _ i1 i2=>
   intro x hx
   cases hx with
   | fn _ _ _ vf vc k1 k2 k3 k4=>
     refine .fn f fs cs vf vc (by omega) (fun i c v hc hv=>?_) (by omega) (fun i c v hc hv=>?_)
     ·obtain ⟨y,hy⟩:=eH h1 hc;exact i1 i c y hc hy v (k2 i y v hy hv)
     ·obtain ⟨y,hy⟩:=eH h3 hc;exact i2 i c y hc hy v (k4 i y v hy hv)
 | iM=>intro x hx;cases hx;exact .iM
 | ifc t v v' _ ih=>
   intro x hx
   cases hx with
   | ifc _ _ y h=>exact .ifc t v y (ih y h)
 | agg cs cs' h _ ih=>
   intro x hx
   cases hx with
   | agg _ vs k1 k2 k3=>exact .agg cs vs (by omega) (fun i c v hc hv=>by obtain ⟨y,hy⟩:=eH h hc;exact ih i c y hc hy v (k2 i y v hy hv)) k3
 | tup cs cs' h _ ih=>
   intro x hx
   cases hx with
   | tup _ vs k1 k2=>exact .tup cs vs (by omega) (fun i c v hc hv=>by obtain ⟨y,hy⟩:=eH h hc;exact ih i c y hc hy v (k2 i y v hy hv))
 | any=>intro x _;exact .any x
theorem rM.rvl {D:B→B→Prop} {g g':Gh} {n n':Nat} (hD:∀ i j,D i j→j.num<n'→g i=g' j∧i.num<n) {a b:List V} (h:rM D a b) {us:List Value} (hu:RVL g' n' b us):RVL g n a us:=
 ⟨by rw [hu.1,h.1],fun i c v hc hv=>by obtain ⟨y,hy⟩:=eH h.1 hc;exact (h.2 i c y hc hy).rv hD v (hu.2 i y v hy hv)⟩
inductive zu (T:Nat→TE) (D:B→B→Prop):Obj→Obj→Prop
 | blk (ro:Bool) (sz sz' hi hi':Nat) (cs cs':Tr V):sz≤sz'→(∀ (j:Nat) v,(bOf j).get cs=some v→j<hi∧∃ u,(bOf j).get cs'=some u∧dH D v u)→zu T D (.blk ro sz hi cs) (.blk ro sz' hi' cs')
 | map (kt:Nat) (es es':List (V×V)):es.length=es'.length→(∀ (i:Nat) e e',es[i]?=some e→es'[i]?=some e'→dH D e.1 e'.1∧dH D e.2 e'.2)→((∀ e∈es',bH (T kt) e.1=true)→∀ e∈es,bH (T kt) e.1=true)→zu T D (.map kt es) (.map kt es')
theorem zu.ro {T:Nat→TE} {D:B→B→Prop} {o o':Obj} (h:zu T D o o'):o.ro=o'.ro:=by cases h<;>rfl
theorem zu.ab3 {T:Nat→TE} {D:B→B→Prop} {g g':Gh} {n n':Nat} (hD:∀ i j,D i j→j.num<n'→g i=g' j∧i.num<n) {o o':Obj} (h:zu T D o o') {id id':B} (hid:g id=g' id') {w:World} (hr:lV T g' n' w id' o'):lV T g n w id o:=by
 cases h with
 | blk ro sz sz' hi hi' cs cs' h1 h2=>
   obtain ⟨cur,Tb,fz,k1,k2,k3,k4,k5⟩:=hr
   refine ⟨cur,Tb,fz,by rw [hid];exact k1,k2,by rw [hid];exact k3,by rw [hid];omega,fun j v hv=>?_⟩
   obtain ⟨e1,u,e2,e3⟩:=h2 j v hv
   obtain ⟨_,x,f1,f2,f3⟩:=k5 j u e2
   exact ⟨e1,x,by rw [hid];exact f1,e3.rv hD x f2,f3⟩
 | map kt es es' h1 h2 h3=>
   obtain ⟨ents,clock,k1,k2,k3,k4,k5⟩:=hr
   refine ⟨ents,clock,by rw [hid];exact k1,by rw [k2,h1],fun i m e hm he=>?_,h3 k4,k5⟩
   obtain ⟨e',he'⟩:=eH h1 he
   obtain ⟨f1,f2⟩:=h2 i e e' he he'
   obtain ⟨q1,q2⟩:=k3 i m e' hm he'
   exact ⟨f1.rv hD _ q1,f2.rv hD _ q2⟩
theorem lV.stay {T:Nat→TE} {g g':Gh} {n n':Nat} (he:Ext g g' n) (hn:n≤n') {id:B} {w w':World} (hid:g' id=g id) {o:Obj} (hw:w'.heap[(g id).b]?=w.heap[(g id).b]?) (hr:lV T g n w id o):lV T g' n' w' id o:=by
 cases o with
 | blk ro sz hi cs=>
   obtain ⟨cur,Tb,fz,k1,k2,k3,k4,k5⟩:=hr
   refine ⟨cur,Tb,fz,by rw [hid,hw];exact k1,k2,by rw [hid];exact k3,by rw [hid];exact k4,fun j v hv=>?_⟩
   obtain ⟨e1,x,f1,f2,f3⟩:=k5 j v hv
   exact ⟨e1,x,by rw [hid];exact f1,f2.mono he hn,f3⟩
 | map kt es=>
   obtain ⟨ents,clock,k1,k2,k3,k4⟩:=hr
   refine ⟨ents,clock,by rw [hid,hw];exact k1,k2,fun i m e hm he'=>?_,k4⟩
   obtain ⟨q1,q2⟩:=k3 i m e hm he'
   exact ⟨q1.mono he hn,q2.mono he hn⟩
theorem lV.lt {T:Nat→TE} {g:Gh} {n:Nat} {w:World} {id:B} {o:Obj} (hr:lV T g n w id o):(g id).b<w.heap.size:=by
 cases o with
 | blk ro sz hi cs=>obtain ⟨cur,Tb,fz,k1,_⟩:=hr;exact (Array.getElem?_eq_some_iff.1 k1).1
 | map kt es=>obtain ⟨ents,clock,k1,_⟩:=hr;exact (Array.getElem?_eq_some_iff.1 k1).1
def akj:Obj→Prop
 | .blk _ _ hi cs=>∀ (j:Nat) v,(bOf j).get cs=some v→j<hi
 | .map _ _=>True
theorem lV.hi {T:Nat→TE} {g:Gh} {n:Nat} {w:World} {id:B} {o:Obj} (hr:lV T g n w id o):akj o:=by
 cases o with
 | blk ro sz hi cs=>obtain ⟨cur,Tb,fz,_,_,_,_,k⟩:=hr;exact fun j v hv=>(k j v hv).1
 | map kt es=>trivial
section
variable {P:Program} {T:Nat→TE} {w0:World} {ng:Nat}
def Vf (nx0 nx nx':Nat) (i j:B):Prop:=nx0≤i.num∧nx≤j.num∧j.num<nx'∧j.num-nx=i.num-nx0
open Classical in
theorem rP.ren {f:Nat} {args0:List V} {t0:Tr Obj} {nx0:B} {v0:V} {t1:Tr Obj} {nx1:B} (hc:rP P T w0 ng f args0 t0 nx0 v0 t1 nx1) (hng:ng≤nx0.num) (h01:nx0.num≤nx1.num)
  {D:B→B→Prop} {args:List V} {t:Tr Obj} {nx:B} {v:V} {t':Tr Obj} {nx':B} (hg:∀ i:B,i.num<ng→D i i) (fun1:∀ i j k,D i j→D i k→j=k) (fun2:∀ i j k,D i k→D j k→i=j) (low:∀ i j,D i j→i.num<nx0.num∧j.num<nx.num)
  (hn':nx'.num=nx.num+(nx1.num-nx0.num))
  (ha:rM D args0 args) (hpre:∀ (i:B) (o:Obj),i.get t0=some o→∃ (j:B) (p:Obj),D i j∧j.get t=some p∧zu T D o p)
  (hv:dH (fun j i=>D i j∨Vf nx0.num nx.num nx'.num i j) v v0)
  (hpost:∀ (i j:B) (o p:Obj),i.get t0=some o→D i j→j.get t=some p→akj p→j.num<nx.num→∀ p',j.get t'=some p'→∃ o',i.get t1=some o'∧zu T (fun j i=>D i j∨Vf nx0.num nx.num nx'.num i j) p' o')
  (hnew:∀ (j:B) p',nx.num≤j.num→j.get t=none→j.get t'=some p'→j.num<nx'.num∧∃ (i:B) (o':Obj),nx0.num≤i.num∧j.num-nx.num=i.num-nx0.num∧i.get t1=some o'∧zu T (fun j i=>D i j∨Vf nx0.num nx.num nx'.num i j) p' o')
  (hold:∀ j:B,j.num<nx.num→(¬ ∃ (i:B) (o:Obj),i.get t0=some o∧D i j)→j.get t'=j.get t):rP P T w0 ng f args t nx v t' nx':=by
 refine ⟨hc.1,fun g hp w vs h1 h2 h3=>?_⟩
 have hngx:=h1.ngx
 let g0:Gh:=fun i=>if h:∃ j,D i j then g (Classical.choose h) else g i
 have hg0:∀ i j,D i j→g0 i=g j:=fun i j h=>by
  have hx:∃ j,D i j:=⟨j,h⟩
  show (if h:∃ j,D i j then g (Classical.choose h) else g i)=g j
  rw [dif_pos hx,fun1 i _ j (Classical.choose_spec hx) h]
 have hDp:∀ i j,D i j→j.num<nx.num→g0 i=g j∧i.num<nx0.num:=fun i j h _=>⟨hg0 i j h,(low i j h).1⟩
 have hpn:∀ (j:B) (p:Obj),j.get t=some p→j.num<nx.num∧lV T g nx.num w j p:=fun j p h=>h1.obj j p (h2 j p h)
 have hr0:HR T w0 ng g0 (fun i=>i.get t0) nx0 w:=by
  refine ⟨h1.os,h1.tape,h1.output,h1.size,h1.old,fun i o ho=>?_,fun i i' o o' ho ho' hne hro=>?_,fun i o ho hro=>?_,fun k hk=>?_,hng⟩
  ·obtain ⟨j,p,d1,d2,d3⟩:=hpre i o ho
   exact ⟨(low i j d1).1,d3.ab3 hDp (hg0 i j d1) (hpn j p d2).2⟩
  ·obtain ⟨j,p,d1,d2,d3⟩:=hpre i o ho
   obtain ⟨j',p',d1',d2',d3'⟩:=hpre i' o' ho'
   rw [hg0 i j d1,hg0 i' j' d1']
   exact h1.sep j j' p p' (h2 j p d2) (h2 j' p' d2') (fun e=>hne (by subst e;exact fun2 i i' j d1 d1')) (by rw [← d3.ro];exact hro)
  ·obtain ⟨j,p,d1,d2,d3⟩:=hpre i o ho
   rw [hg0 i j d1]
   exact h1.new j p (h2 j p d2) (by rw [← d3.ro];exact hro)
  ·rw [hg0 (bOf k) (bOf k) (hg _ hk)];exact h1.glob k hk
 refine (hc.2 g0 _ w vs hr0 (fun i o h=>h) (ha.rvl hDp h3)).mono fun e w' ⟨g1,hp1,val,he,st,hval⟩=>?_
 let R:B→Prop:=fun j=>∃ (i:B) (o:Obj),i.get t0=some o∧D i j
 let g':Gh:=fun j=>if j.num<nx.num then g j else g1 ⟨nx0.num+(j.num-nx.num)⟩
 let hp':B→Option Obj:=fun j=>if R j∨nx.num≤j.num then j.get t' else hp j
 have gold:∀ j:B,j.num<nx.num→g' j=g j:=fun j hj=>if_pos hj
 have gnew:∀ j i:B,nx.num≤j.num→nx0.num≤i.num→j.num-nx.num=i.num-nx0.num→g' j=g1 i:=fun j i h1 h2 h3=>by
  show (if j.num<nx.num then g j else g1 ⟨nx0.num+(j.num-nx.num)⟩)=g1 i
  rw [if_neg (by omega)]
  congr 1
  exact B.eX (by show nx0.num+(j.num-nx.num)=i.num;omega)
 have gD:∀ i j,D i j→g' j=g1 i:=fun i j h=>by
  obtain ⟨l1,l2⟩:=low i j h
  rw [gold j l2,← hg0 i j h,st.ext i l1]
 have hE:∀ j i:B,(D i j∨Vf nx0.num nx.num nx'.num i j)→i.num<nx1.num→g' j=g1 i∧j.num<nx'.num:=fun j i h hi=>by
  rcases h with h | ⟨a1,a2,a3,a4⟩
  ·have:=(low i j h).2
   exact ⟨gD i j h,by omega⟩
  ·exact ⟨gnew j i a2 a1 a4,a3⟩
 have cases':∀ j o,hp' j=some o→(∃ (i:B) (o':Obj),i.get t1=some o'∧zu T (fun j i=>D i j∨Vf nx0.num nx.num nx'.num i j) o o'∧g' j=g1 i∧j.num<nx'.num∧j.get t'=some o∧((∃ o0:Obj,i.get t0=some o0∧D i j)∨(nx0.num≤i.num∧nx.num≤j.num∧j.num-nx.num=i.num-nx0.num))) ∨
   (¬ R j∧j.num<nx.num∧hp j=some o):=fun j o ho=>by
  by_cases hR:R j
  ·have ho':j.get t'=some o:=by
    have:hp' j=j.get t':=if_pos (.inl hR)
    rw [← this];exact ho
   obtain ⟨i,o0,r1,r2⟩:=hR
   obtain ⟨j2,p,d1,d2,d3⟩:=hpre i o0 r1
   have:=fun1 i j2 j d1 r2
   subst this
   obtain ⟨q1,q2⟩:=hpn j2 p d2
   obtain ⟨o',e1,e2⟩:=hpost i j2 o0 p r1 r2 d2 q2.hi q1 o ho'
   exact .inl ⟨i,o',e1,e2,gD i j2 r2,by omega,ho',.inl ⟨o0,r1,r2⟩⟩
  ·by_cases hj:nx.num≤j.num
   ·have ho':j.get t'=some o:=by
     have:hp' j=j.get t':=if_pos (.inr hj)
     rw [← this];exact ho
    have hjn:j.get t=none:=by
     cases hjt:j.get t with
     | none=>rfl
     | some p=>exact absurd (hpn j p hjt).1 (by omega)
    obtain ⟨l,i,o',a1,a2,a3,a4⟩:=hnew j o hj hjn ho'
    exact .inl ⟨i,o',a3,a4,gnew j i hj a1 a2,l,ho',.inr ⟨a1,hj,a2⟩⟩
   ·have ho':hp j=some o:=by
     have:hp' j=hp j:=if_neg (fun h=>h.elim hR hj)
     rw [← this];exact ho
    exact .inr ⟨hR,by omega,ho'⟩
 have apart:∀ j o,¬ R j→hp j=some o→∀ (i:B) (o0:Obj),i.get t0=some o0→o0.ro=false→(g0 i).b≠(g j).b:=fun j o hR ho i o0 hi hro=>by
  obtain ⟨j2,p,d1,d2,d3⟩:=hpre i o0 hi
  rw [hg0 i j2 d1]
  exact h1.sep j2 j p o (h2 j2 p d2) ho (fun e=>hR ⟨i,o0,hi,by rw [← e];exact d1⟩) (by rw [← d3.ro];exact hro)
 have stays:∀ j o,¬ R j→j.num<nx.num→hp j=some o→w'.heap[(g j).b]?=w.heap[(g j).b]?:=fun j o hR hj ho=>
  st.un _ (h1.obj j o ho).2.lt fun i o0 hi hro=>apart j o hR ho i o0 hi hro
 have hext:Ext g g' nx.num:=gold
 have hle:nx.num≤nx'.num:=by omega
 refine ⟨g',hp',val,he,⟨hext,hle,⟨st.hr.os,st.hr.tape,st.hr.output,st.hr.size,st.hr.old,fun j o ho=>?_,fun j j' o o' ho ho' hne hro=>?_,fun j o ho hro=>?_,fun k hk=>?_,by omega⟩,fun j o ho=>?_,fun j hj hn=>?_,fun j hj hn=>?_,st.sz,st.dr,fun b hb hun=>?_,fun j o ho hro=>?_,fun j o ho hj=>?_⟩,hv.rv hE val hval⟩
 ·
  rcases cases' j o ho with ⟨i,o',e1,e2,e3,e4,_,_⟩ | ⟨hR,hj,hho⟩
  ·exact ⟨e4,e2.ab3 hE e3 (st.hr.obj i o' (st.sub i o' e1)).2⟩
  ·exact ⟨by omega,(h1.obj j o hho).2.stay hext hle (gold j hj) (stays j o hR hj hho)⟩
 ·
  rcases cases' j o ho with ⟨i,p,e1,e2,e3,e4,e5,e6⟩ | ⟨hR,hj,hho⟩
  ·have hro1:p.ro=false:=by rw [← e2.ro];exact hro
   rcases cases' j' o' ho' with ⟨i',p',f1,f2,f3,f4,f5,f6⟩ | ⟨hR',hj',hho'⟩
   ·rw [e3,f3]
    refine st.hr.sep i i' p p' (st.sub i p e1) (st.sub i' p' f1) (fun e=>hne ?_) hro1
    subst e
    rcases e6 with ⟨o0,a1,a2⟩ | ⟨a1,a2,a3⟩
    ·rcases f6 with ⟨o0',b1,b2⟩ | ⟨b1,b2,b3⟩
     ·exact fun1 i j j' a2 b2
     ·exact absurd (low i j a2).1 (by omega)
    ·rcases f6 with ⟨o0',b1,b2⟩ | ⟨b1,b2,b3⟩
     ·exact absurd (low i j' b2).1 (by omega)
     ·exact B.eX (by omega)
   ·rw [e3,gold j' hj']
    rcases st.pl i p e1 hro1 with q | ⟨i2,o2,q1,q2,q3⟩
    ·have:=(h1.obj j' o' hho').2.lt;omega
    ·rw [← q3];exact apart j' o' hR' hho' i2 o2 q1 q2
  ·rw [gold j hj]
   rcases cases' j' o' ho' with ⟨i',p',f1,f2,f3,f4,f5,f6⟩ | ⟨hR',hj',hho'⟩
   ·rw [f3]
    rcases f6 with ⟨o0,a1,a2⟩ | ⟨a1,a2,a3⟩
    ·obtain ⟨j2,q,d1,d2,d3⟩:=hpre i' o0 a1
     have:=fun1 i' j2 j' d1 a2
     subst this
     rw [← gD i' j2 d1,gold j2 (low i' j2 d1).2]
     exact h1.sep j j2 o q hho (h2 j2 q d2) hne hro
    ·rcases st.pl2 i' p' (st.sub i' p' f1) a1 with q | ⟨i2,o2,q1,q2⟩
     ·have:=(h1.obj j o hho).2.lt;omega
     ·obtain ⟨j2,q,d1,d2,d3⟩:=hpre i2 o2 q1
      rw [← q2,hg0 i2 j2 d1]
      exact h1.sep j j2 o q hho (h2 j2 q d2) (fun e=>hR ⟨i2,o2,q1,by rw [e];exact d1⟩) hro
   ·rw [gold j' hj']
    exact h1.sep j j' o o' hho hho' hne hro
 ·
  rcases cases' j o ho with ⟨i,p,e1,e2,e3,e4,e5,e6⟩ | ⟨hR,hj,hho⟩
  ·rw [e3];exact st.hr.new i p (st.sub i p e1) (by rw [← e2.ro];exact hro)
  ·rw [gold j hj];exact h1.new j o hho hro
 ·rw [gold (bOf k) (by show k<nx.num;omega)];exact h1.glob k hk
 ·
  by_cases hR:R j∨nx.num≤j.num
  ·show (if R j∨nx.num≤j.num then j.get t' else hp j)=some o
   rw [if_pos hR];exact ho
  ·show (if R j∨nx.num≤j.num then j.get t' else hp j)=some o
   rw [if_neg hR]
   rw [hold j (by omega) (fun h=>hR (.inl h))] at ho
   exact h2 j o ho
 ·
  have hR:¬ R j:=fun ⟨i,o0,r1,r2⟩=>by
   obtain ⟨j2,p,d1,d2,d3⟩:=hpre i o0 r1
   have:=fun1 i j2 j d1 r2
   subst this
   rw [hn] at d2;cases d2
  show (if R j∨nx.num≤j.num then j.get t' else hp j)=hp j
  rw [if_neg (fun h=>h.elim hR (by omega))]
 ·have hR:¬ R j:=fun ⟨i,o0,r1,r2⟩=>by
   obtain ⟨j2,p,d1,d2,d3⟩:=hpre i o0 r1
   have:=fun1 i j2 j d1 r2
   subst this
   rw [hn] at d2;cases d2
  rw [hold j hj hR];exact hn
 ·refine st.un b hb fun i o0 hi hro=>?_
  obtain ⟨j,p,d1,d2,d3⟩:=hpre i o0 hi
  rw [hg0 i j d1]
  exact hun j p d2 (by rw [← d3.ro];exact hro)
 ·by_cases hR:R j∨nx.num≤j.num
  ·have hpj:hp' j=some o:=by
    show (if R j∨nx.num≤j.num then j.get t' else hp j)=some o
    rw [if_pos hR];exact ho
   rcases cases' j o hpj with ⟨i,p,e1,e2,e3,e4,e5,e6⟩ | ⟨hR',hj,hho⟩
   ·rw [e3]
    rcases st.pl i p e1 (by rw [← e2.ro];exact hro) with q | ⟨i2,o2,q1,q2,q3⟩
    ·exact .inl q
    ·obtain ⟨j2,q,d1,d2,d3⟩:=hpre i2 o2 q1
     exact .inr ⟨j2,q,d2,by rw [← d3.ro];exact q2,by rw [← q3,hg0 i2 j2 d1]⟩
   ·exact absurd hR (fun h=>h.elim hR' (by omega))
  ·rw [hold j (by omega) (fun h=>hR (.inl h))] at ho
   exact .inr ⟨j,o,ho,hro,by rw [gold j (by omega)]⟩
 ·rcases cases' j o ho with ⟨i,p,e1,e2,e3,e4,e5,e6⟩ | ⟨hR',hj',hho⟩
  ·rw [e3]
   rcases e6 with ⟨o0,a1,a2⟩ | ⟨a1,a2,a3⟩
   ·exact absurd (low i j a2).2 (by omega)
   ·rcases st.pl2 i p (st.sub i p e1) a1 with q | ⟨i2,o2,q1,q2⟩
    ·exact .inl q
    ·obtain ⟨j2,q,d1,d2,d3⟩:=hpre i2 o2 q1
     exact .inr ⟨j2,q,d2,by rw [← q2,hg0 i2 j2 d1]⟩
  ·omega
end
inductive FO where
 | blk (ro:Bool) (sz:Nat) (cs:List V)
 | map (kt:Nat) (es:List (V×V))
structure Fact where
 args:List V
 pre:List (Nat×FO)
 m:Nat
 v:V
 gone:List Nat
 same:List Nat
 post:List (Nat×FO)
 n:Nat
noncomputable def FO.obj:FO→Obj
 | .blk ro sz cs => .blk ro sz cs.length (eu cs .lf 0)
 | .map kt es => .map kt es
noncomputable def ahT {R:Type} (fo:FO) (K:Obj→R):R:=match fo with
 | .blk ro sz cs=>ou cs .lf 0 fun tr=>aV cs.length fun h=>K (.blk ro sz h tr)
 | .map kt es=>K (.map kt es)
theorem ab4 {R:Type} (fo:FO) (K:Obj→R):ahT fo K=K fo.obj:=by
 cases fo with
 | blk ro sz cs=>show ou cs .lf 0 _=_;rw [dX,aH];rfl
 | map kt es=>rfl
noncomputable def Vb {R:Type} (l:List (Nat×FO)):Tr Obj→(Tr Obj→R)→R:=
 List.rec (motive:=fun _=>Tr Obj→(Tr Obj→R)→R) (fun t K=>K t) (fun x _ ih t K=>ahT x.2 fun o=>(bOf x.1).jQ t (some o) fun t=>ih t K) l
noncomputable def eF:List (Nat×FO)→Tr Obj→Tr Obj
 | [],t=>t
 | x::l,t=>eF l ((bOf x.1).put t (some x.2.obj))
theorem wR {R:Type}:∀ (l:List (Nat×FO)) (t:Tr Obj) (K:Tr Obj→R),Vb l t K=K (eF l t)
 | [],_,_=>rfl
 | x::l,t,K=>by
   show ahT x.2 (fun o=>(bOf x.1).jQ t (some o) fun t=>Vb l t K)=_
   rw [ab4,B.eP,wR l];rfl
theorem qJ:∀ (l:List (Nat×FO)) (t:Tr Obj) (i:B) (o:Obj),i.get (eF l t)=some o→(∃ fo,(i.num,fo)∈l∧o=fo.obj)∨i.get t=some o
 | [],_,_,_,h => .inr h
 | x::l,t,i,o,h=>by
   rcases qJ l _ i o h with ⟨fo,h1,h2⟩ | h3
   ·exact .inl ⟨fo,List.mem_cons_of_mem _ h1,h2⟩
   ·rw [B.get_put] at h3
    split at h3
    ·rename_i e
     subst e
     exact .inl ⟨x.2,List.mem_cons_self,(Option.some.inj h3).symm⟩
    ·exact .inr h3
theorem Gf:∀ (l:List (Nat×FO)) (t:Tr Obj) (i:B),(i.get t).isSome∨(∃ fo,(i.num,fo)∈l)→(i.get (eF l t)).isSome
 | [],_,_,h=>h.elim id fun ⟨_,h⟩=>by cases h
 | x::l,t,i,h=>by
   refine Gf l _ i ?_
   rw [B.get_put]
   by_cases e:i=bOf x.1
   ·left;rw [if_pos e];rfl
   ·rw [if_neg e]
    rcases h with h | ⟨fo,h⟩
    ·exact .inl h
    ·rcases List.mem_cons.1 h with h | h
     ·exact absurd (B.eX (show i.num=x.1 from by rw [← h])) e
     ·exact .inr ⟨fo,h⟩
abbrev KU (R:Type):=Tr B→Tr B→R
noncomputable def bK {R:Type} (o:Option B) (K:B→R) (e:R):R:=Option.rec (motive:=fun _=>(B→R)→R→R) (fun _ e=>e) (fun v K _=>K v) o K e
theorem UE {R:Type} (o:Option B) (K:B→R) (e:R):bK o K e=match o with | some j=>K j | none=>e:=by cases o<;>rfl
noncomputable def uI {R:Type} (ng m nx:Nat) (i j:B) (ρ σ:Tr B) (K:KU R) (e:R):R:=
 aI (Nat.blt i.n ng) (aI (Nat.beq i.n j.n) (K ρ σ) e)
  (bK (i.get ρ) (fun j'=>aI (Nat.beq j'.n j.n) (K ρ σ) e)
   (aI (and (and (Nat.blt i.n m) (Nat.ble ng j.n)) (Nat.blt j.n nx)) (bK (j.get σ) (fun _=>e) (i.jQ ρ (some j) fun ρ=>j.jQ σ (some i) fun σ=>K ρ σ)) e))
noncomputable def uL {R:Type} (u:V→V→Tr B→Tr B→KU R→R→R) (a:List V):List V→Tr B→Tr B→KU R→R→R:=
 List.rec (motive:=fun _=>List V→Tr B→Tr B→KU R→R→R) (fun b ρ σ K e=>match b with | []=>K ρ σ | _=>e)
  (fun x _ ih b ρ σ K e=>match b with | y::ys=>u x y ρ σ (fun ρ σ=>ih ys ρ σ K e) e | []=>e) a
noncomputable def uV {R:Type} (ng m nx:Nat):Nat→V→V→Tr B→Tr B→KU R→R→R
 | 0,_,_,_,_,_,e=>e
 | d+1,a,b,ρ,σ,K,e=>match a,b with
   | .bool x,.bool y=>aI (tK x y) (K ρ σ) e
   | .int k x,.int k' y=>aI (and (Nat.beq (ikN k) (ikN k')) (eqI x y)) (K ρ σ) e
   | .str l x,.str l' y=>aI (strEq l x l' y) (K ρ σ) e
   | .dN,.dN=>K ρ σ
   | .ptr i o,.ptr j o'=>aI (Nat.beq o o') (uI ng m nx i j ρ σ K e) e
   | .aj,.aj=>K ρ σ
   | .gI,.gI=>K ρ σ
   | .sl i sz o l c,.sl j sz' o' l' c'=>aI (and (and (Nat.beq sz sz') (Nat.beq o o')) (and (Nat.beq l l') (eqO c c'))) (uI ng m nx i j ρ σ K e) e
   | .iw,.iw=>K ρ σ
   | .map i,.map j=>uI ng m nx i j ρ σ K e
   | .iF,.iF=>K ρ σ
   | .fn f fs cs,.fn f' fs' cs'=>aI (Nat.beq f f') (uL (uV ng m nx d) fs fs' ρ σ (fun ρ σ=>uL (uV ng m nx d) cs cs' ρ σ K e) e) e
   | .iM,.iM=>K ρ σ
   | .ifc t v,.ifc t' v'=>aI (Nat.beq t t') (uV ng m nx d v v' ρ σ K e) e
   | .agg cs,.agg cs'=>uL (uV ng m nx d) cs cs' ρ σ K e
   | .tup cs,.tup cs'=>uL (uV ng m nx d) cs cs' ρ σ K e
   | .any,.any=>K ρ σ
   | _,_=>e
structure UI (ng m nx:Nat) (ρ σ:Tr B):Prop where
 to:∀ i j:B,i.get ρ=some j→j.get σ=some i∧ng≤i.num∧i.num<m∧ng≤j.num∧j.num<nx
 back:∀ i j:B,j.get σ=some i→i.get ρ=some j
def Dof (ng:Nat) (ρ:Tr B) (i j:B):Prop:=(i.num<ng∧i=j)∨(ng≤i.num∧i.get ρ=some j)
def XtR (ρ ρ':Tr B):Prop:=∀ i j:B,i.get ρ=some j→i.get ρ'=some j
theorem Dof.mono {ng:Nat} {ρ ρ':Tr B} (h:XtR ρ ρ') {i j:B} (hd:Dof ng ρ i j):Dof ng ρ' i j:=hd.imp id fun ⟨h1,h2⟩=>⟨h1,h i j h2⟩
def Gives {R:Type} (ng m nx:Nat) (ρ σ:Tr B) (K:KU R) (r:R) (Q:Tr B→Prop):Prop:=∃ ρ' σ',K ρ' σ'=r∧UI ng m nx ρ' σ'∧XtR ρ ρ'∧Q ρ'
theorem Gives.here {R:Type} {ng m nx:Nat} {ρ σ:Tr B} {K:KU R} {r:R} {Q:Tr B→Prop} (h:K ρ σ=r) (hu:UI ng m nx ρ σ) (hq:Q ρ):Gives ng m nx ρ σ K r Q:=⟨ρ,σ,h,hu,fun _ _ h=>h,hq⟩
theorem V5 {R:Type} {ng m nx:Nat} {i j:B} {ρ σ:Tr B} {K:KU R} {e r:R} (h:uI ng m nx i j ρ σ K e=r) (he:e≠r) (hu:UI ng m nx ρ σ):Gives ng m nx ρ σ K r fun ρ=>Dof ng ρ i j:=by
 unfold uI at h
 rw [aS] at h
 split at h
 ·rename_i h1
  obtain ⟨h2,h3⟩:=aG h he
  exact .here h3 hu (.inl ⟨aO.1 h1,B.eX (beq_iff.1 h2)⟩)
 ·rename_i h1
  have h1:ng≤i.num:=by
   have:¬ i.n<ng:=fun h'=>h1 (aO.2 h')
   exact Nat.not_lt.1 this
  rw [UE] at h
  split at h
  ·rename_i j' hj
   obtain ⟨h2,h3⟩:=aG h he
   have:j'=j:=B.eX (beq_iff.1 h2)
   subst this
   exact .here h3 hu (.inr ⟨h1,hj⟩)
  ·rename_i hj
   obtain ⟨h2,h3⟩:=aG h he
   obtain ⟨h4,h5⟩:=aB h2
   obtain ⟨h6,h7⟩:=aB h4
   have h5:j.num<nx:=aO.1 h5
   have h6:i.num<m:=aO.1 h6
   have h7:ng≤j.num:=aX.1 h7
   rw [UE] at h3
   split at h3
   ·exact absurd h3 he
   ·rename_i hs
    rw [B.eP,B.eP] at h3
    refine ⟨_,_,h3,⟨fun a b hab=>?_,fun a b hab=>?_⟩,fun a b hab=>?_,.inr ⟨h1,by rw [B.get_put,if_pos rfl]⟩⟩
    ·rw [B.get_put] at hab
     split at hab
     ·rename_i e1
      cases hab
      subst e1
      exact ⟨by rw [B.get_put,if_pos rfl],h1,h6,h7,h5⟩
     ·obtain ⟨q1,q2⟩:=hu.to a b hab
      refine ⟨?_,q2⟩
      rw [B.get_put,if_neg (fun e1=>by subst e1;rw [hs] at q1;cases q1)]
      exact q1
    ·rw [B.get_put] at hab
     split at hab
     ·rename_i e1
      cases hab
      subst e1
      rw [B.get_put,if_pos rfl]
     ·have q:=hu.back a b hab
      rw [B.get_put,if_neg (fun e1=>by subst e1;rw [hj] at q;cases q)]
      exact q
    ·rw [B.get_put,if_neg (fun e1=>by subst e1;rw [hj] at hab;cases hab)]
     exact hab
def zq (R:Type) (ng m nx:Nat) (u:V→V→Tr B→Tr B→KU R→R→R):Prop:=∀ a b ρ σ K e r,u a b ρ σ K e=r→e≠r→UI ng m nx ρ σ→Gives ng m nx ρ σ K r fun ρ=>dH (Dof ng ρ) a b
theorem FQ {R:Type} {ng m nx:Nat} {u:V→V→Tr B→Tr B→KU R→R→R} (hu:zq R ng m nx u):∀ (a b:List V) (ρ σ:Tr B) (K:KU R) (e r:R),uL u a b ρ σ K e=r→e≠r→UI ng m nx ρ σ→Gives ng m nx ρ σ K r fun ρ=>rM (Dof ng ρ) a b
 | [],[],ρ,σ,K,e,r,h,_,hi => .here h hi .nil
 | [],_::_,ρ,σ,K,e,r,h,he,_=>absurd h he
 | _::_,[],ρ,σ,K,e,r,h,he,_=>absurd h he
 | x::a,y::b,ρ,σ,K,e,r,h,he,hi=>by
   have h':u x y ρ σ (fun ρ σ=>uL u a b ρ σ K e) e=r:=h
   obtain ⟨ρ1,σ1,k1,k2,k3,k4⟩:=hu x y ρ σ _ e r h' he hi
   obtain ⟨ρ2,σ2,k5,k6,k7,k8⟩:=FQ hu a b ρ1 σ1 K e r k1 he k2
   exact ⟨ρ2,σ2,k5,k6,fun i j hij=>k7 i j (k3 i j hij),.cons (k4.mono fun i j hd=>hd.mono k7) k8⟩
theorem FX {l x l' y:Nat} (h:strEq l x l' y=true):l=l'∧x=y:=by
 obtain ⟨h1,h2⟩:=aB h
 exact ⟨beq_iff.1 h1,beq_iff.1 h2⟩
theorem V3 {R:Type} {ng m nx:Nat}:∀ d,zq R ng m nx (uV ng m nx d)
 | 0=>fun a b ρ σ K e r h he _=>absurd h he
 | d+1=>fun a b ρ σ K e r h he hi=>by
   have ih:=V3 (R:=R) (ng:=ng) (m:=m) (nx:=nx) d
   unfold uV at h
   split at h
   ·obtain ⟨h1,h2⟩:=aG h he
    have:=lN.1 h1;subst this
    exact .here h2 hi (.bool _)
   ·obtain ⟨h1,h2⟩:=aG h he
    obtain ⟨h3,h4⟩:=aB h1
    have:=kH h3;subst this
    have:=JG h4;subst this
    exact .here h2 hi (.int _ _)
   ·obtain ⟨h1,h2⟩:=aG h he
    obtain ⟨rfl,rfl⟩:=FX h1
    exact .here h2 hi (.str _ _)
   ·exact .here h hi .dN
   ·obtain ⟨h1,h2⟩:=aG h he
    have:=beq_iff.1 h1;subst this
    obtain ⟨ρ',σ',k1,k2,k3,k4⟩:=V5 h2 he hi
    exact ⟨ρ',σ',k1,k2,k3,.ptr _ _ _ k4⟩
   ·exact .here h hi .aj
   ·exact .here h hi .gI
   ·obtain ⟨h1,h2⟩:=aG h he
    obtain ⟨h3,h4⟩:=aB h1
    obtain ⟨h5,h6⟩:=aB h3
    obtain ⟨h7,h8⟩:=aB h4
    have:=beq_iff.1 h5;subst this
    have:=beq_iff.1 h6;subst this
    have:=beq_iff.1 h7;subst this
    have:=JF h8;subst this
    obtain ⟨ρ',σ',k1,k2,k3,k4⟩:=V5 h2 he hi
    exact ⟨ρ',σ',k1,k2,k3,.sl _ _ _ _ _ _ k4⟩
   ·exact .here h hi .iw
   ·obtain ⟨ρ',σ',k1,k2,k3,k4⟩:=V5 h he hi
    exact ⟨ρ',σ',k1,k2,k3,.map _ _ k4⟩
   ·exact .here h hi .iF
   ·obtain ⟨h1,h2⟩:=aG h he
    have:=beq_iff.1 h1;subst this
    obtain ⟨ρ1,σ1,k1,k2,k3,k4⟩:=FQ ih _ _ _ _ _ _ _ h2 he hi
    obtain ⟨ρ2,σ2,k5,k6,k7,k8⟩:=FQ ih _ _ _ _ _ _ _ k1 he k2
    have k4:=k4.mono fun i j (hd:Dof ng ρ1 i j)=>hd.mono k7
    exact ⟨ρ2,σ2,k5,k6,fun i j hij=>k7 i j (k3 i j hij),.fn _ _ _ _ _ k4.1 k4.2 k8.1 k8.2⟩
   ·exact .here h hi .iM
   ·obtain ⟨h1,h2⟩:=aG h he
    have:=beq_iff.1 h1;subst this
    obtain ⟨ρ1,σ1,k1,k2,k3,k4⟩:=ih _ _ _ _ _ _ _ h2 he hi
    exact ⟨ρ1,σ1,k1,k2,k3,.ifc _ _ _ k4⟩
   ·obtain ⟨ρ1,σ1,k1,k2,k3,k4⟩:=FQ ih _ _ _ _ _ _ _ h he hi
    exact ⟨ρ1,σ1,k1,k2,k3,.agg _ _ k4.1 k4.2⟩
   ·obtain ⟨ρ1,σ1,k1,k2,k3,k4⟩:=FQ ih _ _ _ _ _ _ _ h he hi
    exact ⟨ρ1,σ1,k1,k2,k3,.tup _ _ k4.1 k4.2⟩
   ·exact .here h hi .any
   ·exact absurd h he
inductive UO (D:B→B→Prop):FO→Obj→Prop
 | blk (ro:Bool) (sz:Nat) (cs:List V) (cs':Tr V):(∀ (j:Nat) a,cs[j]?=some a→∃ b,(bOf j).get cs'=some b∧dH D a b)→UO D (.blk ro sz cs) (.blk ro sz cs.length cs')
 | map (kt:Nat) (es es':List (V×V)):es.length=es'.length→(∀ (i:Nat) e e',es[i]?=some e→es'[i]?=some e'→dH D e.1 e'.1∧dH D e.2 e'.2)→UO D (.map kt es) (.map kt es')
theorem UO.mono {D D':B→B→Prop} (hD:∀ i j,D i j→D' i j) {fo:FO} {o:Obj} (h:UO D fo o):UO D' fo o:=by
 cases h with
 | blk ro sz cs cs' h=>exact .blk ro sz cs cs' fun j a ha=>by obtain ⟨b,h1,h2⟩:=h j a ha;exact ⟨b,h1,h2.mono hD⟩
 | map kt es es' h1 h2=>exact .map kt es es' h1 fun i e e' he he'=>by obtain ⟨a,b⟩:=h2 i e e' he he';exact ⟨a.mono hD,b.mono hD⟩
noncomputable def uCs {R:Type} (u:V→V→Tr B→Tr B→KU R→R→R) (cs':Tr V) (cs:List V):Nat→Tr B→Tr B→KU R→R→R:=
 List.rec (motive:=fun _=>Nat→Tr B→Tr B→KU R→R→R) (fun _ ρ σ K _=>K ρ σ)
  (fun x _ ih off ρ σ K e=>Option.rec (motive:=fun _=>R) e (fun y=>u x y ρ σ (fun ρ σ=>ih (Nat.succ off) ρ σ K e) e) ((bOf off).get cs')) cs
noncomputable def uEs {R:Type} (u:V→V→Tr B→Tr B→KU R→R→R) (es:List (V×V)):List (V×V)→Tr B→Tr B→KU R→R→R:=
 List.rec (motive:=fun _=>List (V×V)→Tr B→Tr B→KU R→R→R) (fun b ρ σ K e=>match b with | []=>K ρ σ | _=>e)
  (fun x _ ih b ρ σ K e=>match b with | y::ys=>u x.1 y.1 ρ σ (fun ρ σ=>u x.2 y.2 ρ σ (fun ρ σ=>ih ys ρ σ K e) e) e | []=>e) es
noncomputable def uO {R:Type} (u:V→V→Tr B→Tr B→KU R→R→R) (fo:FO) (o:Obj) (ρ σ:Tr B) (K:KU R) (e:R):R:=match fo,o with
 | .blk ro sz cs,.blk ro' sz' hi cs'=>aI (and (tK ro ro') (and (Nat.beq sz sz') (Nat.beq cs.length hi))) (uCs u cs' cs 0 ρ σ K e) e
 | .map kt es,.map kt' es'=>aI (Nat.beq kt kt') (uEs u es es' ρ σ K e) e
 | _,_=>e
noncomputable def uOs {R:Type} (u:V→V→Tr B→Tr B→KU R→R→R) (ng:Nat) (t:Tr Obj) (l:List (Nat×FO)):Tr B→Tr B→KU R→R→R:=
 List.rec (motive:=fun _=>Tr B→Tr B→KU R→R→R) (fun ρ σ K _=>K ρ σ)
  (fun x _ ih ρ σ K e=>aI (Nat.blt x.1 ng) (Option.rec (motive:=fun _=>R) e (fun o=>uO u x.2 o ρ σ (fun ρ σ=>ih ρ σ K e) e) ((bOf x.1).get t))
   (bK ((bOf x.1).get ρ) (fun j=>Option.rec (motive:=fun _=>R) e (fun o=>uO u x.2 o ρ σ (fun ρ σ=>ih ρ σ K e) e) (j.get t)) e)) l
theorem V7 {R:Type} {ng m nx:Nat} {u:V→V→Tr B→Tr B→KU R→R→R} (hu:zq R ng m nx u) {cs':Tr V}:∀ (cs:List V) (off:Nat) (ρ σ:Tr B) (K:KU R) (e r:R),uCs u cs' cs off ρ σ K e=r→e≠r→UI ng m nx ρ σ →
  Gives ng m nx ρ σ K r fun ρ=>∀ (j:Nat) a,cs[j]?=some a→∃ b,(bOf (off+j)).get cs'=some b∧dH (Dof ng ρ) a b
 | [],off,ρ,σ,K,e,r,h,_,hi => .here h hi fun j a ha=>by simp at ha
 | x::cs,off,ρ,σ,K,e,r,h,he,hi=>by
   have h':Option.rec (motive:=fun _=>R) e (fun y=>u x y ρ σ (fun ρ σ=>uCs u cs' cs (off+1) ρ σ K e) e) ((bOf off).get cs')=r:=h
   cases hg:(bOf off).get cs' with
   | none=>rw [hg] at h';exact absurd h' he
   | some y=>
     rw [hg] at h'
     obtain ⟨ρ1,σ1,k1,k2,k3,k4⟩:=hu x y ρ σ _ e r h' he hi
     obtain ⟨ρ2,σ2,k5,k6,k7,k8⟩:=V7 hu cs (off+1) ρ1 σ1 K e r k1 he k2
     refine ⟨ρ2,σ2,k5,k6,fun i j hij=>k7 i j (k3 i j hij),fun j a ha=>?_⟩
     cases j with
     | zero=>simp at ha;subst ha;exact ⟨y,hg,k4.mono fun i j hd=>hd.mono k7⟩
     | succ j=>
       simp at ha
       obtain ⟨b,q1,q2⟩:=k8 j a ha
       exact ⟨b,by rw [← q1];congr 2;omega,q2⟩
theorem V6 {R:Type} {ng m nx:Nat} {u:V→V→Tr B→Tr B→KU R→R→R} (hu:zq R ng m nx u):∀ (es es':List (V×V)) (ρ σ:Tr B) (K:KU R) (e r:R),uEs u es es' ρ σ K e=r→e≠r→UI ng m nx ρ σ →
  Gives ng m nx ρ σ K r fun ρ=>es.length=es'.length∧∀ (i:Nat) e e',es[i]?=some e→es'[i]?=some e'→dH (Dof ng ρ) e.1 e'.1∧dH (Dof ng ρ) e.2 e'.2
 | [],[],ρ,σ,K,e,r,h,_,hi => .here h hi ⟨rfl,fun i e e' he=>by simp at he⟩
 | [],_::_,ρ,σ,K,e,r,h,he,_=>absurd h he
 | _::_,[],ρ,σ,K,e,r,h,he,_=>absurd h he
 | x::es,y::es',ρ,σ,K,e,r,h,he,hi=>by
   have h':u x.1 y.1 ρ σ (fun ρ σ=>u x.2 y.2 ρ σ (fun ρ σ=>uEs u es es' ρ σ K e) e) e=r:=h
   obtain ⟨ρ0,σ0,k1,k2,k3,k4⟩:=hu _ _ ρ σ _ e r h' he hi
   obtain ⟨ρ1,σ1,l1,l2,l3,l4⟩:=hu _ _ ρ0 σ0 _ e r k1 he k2
   obtain ⟨ρ2,σ2,k5,k6,k7,k8,k9⟩:=V6 hu es es' ρ1 σ1 K e r l1 he l2
   refine ⟨ρ2,σ2,k5,k6,fun i j hij=>k7 i j (l3 i j (k3 i j hij)),by simp [k8],fun i a b ha hb=>?_⟩
   cases i with
   | zero=>
     simp at ha hb
     subst ha;subst hb
     exact ⟨k4.mono fun i j hd=>(hd.mono l3).mono k7,l4.mono fun i j hd=>hd.mono k7⟩
   | succ i=>simp at ha hb;exact k9 i a b ha hb
theorem akq {R:Type} {ng m nx:Nat} {u:V→V→Tr B→Tr B→KU R→R→R} (hu:zq R ng m nx u) {fo:FO} {o:Obj} {ρ σ:Tr B} {K:KU R} {e r:R} (h:uO u fo o ρ σ K e=r) (he:e≠r) (hi:UI ng m nx ρ σ) :
  Gives ng m nx ρ σ K r fun ρ=>UO (Dof ng ρ) fo o:=by
 unfold uO at h
 split at h
 ·rename_i ro sz cs ro' sz' hi' cs'
  obtain ⟨h1,h2⟩:=aG h he
  obtain ⟨h3,h4⟩:=aB h1
  obtain ⟨h5,h6⟩:=aB h4
  have:=lN.1 h3;subst this
  have:=beq_iff.1 h5;subst this
  have:=beq_iff.1 h6;subst this
  obtain ⟨ρ1,σ1,k1,k2,k3,k4⟩:=V7 hu _ _ _ _ _ _ _ h2 he hi
  exact ⟨ρ1,σ1,k1,k2,k3,.blk _ _ _ _ fun j a ha=>by simpa using k4 j a ha⟩
 ·obtain ⟨h1,h2⟩:=aG h he
  have:=beq_iff.1 h1;subst this
  obtain ⟨ρ1,σ1,k1,k2,k3,k4,k5⟩:=V6 hu _ _ _ _ _ _ _ h2 he hi
  exact ⟨ρ1,σ1,k1,k2,k3,.map _ _ _ k4 k5⟩
 ·exact absurd h he
theorem V4 {R:Type} {ng m nx:Nat} {u:V→V→Tr B→Tr B→KU R→R→R} (hu:zq R ng m nx u) {t:Tr Obj}:∀ (l:List (Nat×FO)) (ρ σ:Tr B) (K:KU R) (e r:R),uOs u ng t l ρ σ K e=r→e≠r→UI ng m nx ρ σ →
  Gives ng m nx ρ σ K r fun ρ=>∀ x∈l,∃ j o,Dof ng ρ (bOf x.1) j∧j.get t=some o∧UO (Dof ng ρ) x.2 o
 | [],ρ,σ,K,e,r,h,_,hi => .here h hi fun x hx=>by cases hx
 | x::l,ρ,σ,K,e,r,h,he,hi=>by
   have h':aI (Nat.blt x.1 ng) (Option.rec (motive:=fun _=>R) e (fun o=>uO u x.2 o ρ σ (fun ρ σ=>uOs u ng t l ρ σ K e) e) ((bOf x.1).get t))
    (bK ((bOf x.1).get ρ) (fun j=>Option.rec (motive:=fun _=>R) e (fun o=>uO u x.2 o ρ σ (fun ρ σ=>uOs u ng t l ρ σ K e) e) (j.get t)) e)=r:=h
   have key:∀ j,Dof ng ρ (bOf x.1) j→Option.rec (motive:=fun _=>R) e (fun o=>uO u x.2 o ρ σ (fun ρ σ=>uOs u ng t l ρ σ K e) e) (j.get t)=r →
     Gives ng m nx ρ σ K r fun ρ=>∀ y∈x::l,∃ j o,Dof ng ρ (bOf y.1) j∧j.get t=some o∧UO (Dof ng ρ) y.2 o:=fun j hd hj=>by
    cases hg:j.get t with
    | none=>rw [hg] at hj;exact absurd hj he
    | some o=>
      rw [hg] at hj
      obtain ⟨ρ1,σ1,k1,k2,k3,k4⟩:=akq hu hj he hi
      obtain ⟨ρ2,σ2,k5,k6,k7,k8⟩:=V4 hu l ρ1 σ1 K e r k1 he k2
      refine ⟨ρ2,σ2,k5,k6,fun i j hij=>k7 i j (k3 i j hij),fun y hy=>?_⟩
      rcases List.mem_cons.1 hy with rfl | hy
      ·exact ⟨j,o,(hd.mono k3).mono k7,hg,k4.mono fun i j hd=>hd.mono k7⟩
      ·exact k8 y hy
   rw [aS] at h'
   split at h'
   ·rename_i h1
    exact key (bOf x.1) (.inl ⟨aO.1 h1,rfl⟩) h'
   ·rename_i h1
    rw [UE] at h'
    split at h'
    ·rename_i j hj
     exact key j (.inr ⟨by have:¬ x.1<ng:=(fun h2=>h1 (aO.2 h2));exact Nat.not_lt.1 this,hj⟩) h'
    ·exact absurd h' he
def ED (ng m nx nx':Nat) (ρ:Tr B) (i j:B):Prop:=Dof ng ρ i j∨Vf m nx nx' i j
noncomputable def sI {R:Type} (ng m n nx:Nat) (ρ:Tr B) (i:B) (K:B→R) (e:R):R:=
 aI (Nat.blt i.n ng) (K i) (aI (Nat.blt i.n m) (bK (i.get ρ) K e) (aI (Nat.blt i.n n) (aV (Nat.add nx (Nat.sub i.n m)) fun j=>K ⟨j⟩) e))
theorem Qo {R:Type} {ng m n nx:Nat} {ρ:Tr B} {i:B} {K:B→R} {e r:R} (h:sI ng m n nx ρ i K e=r) (he:e≠r):∃ j,K j=r∧ED ng m nx (nx+(n-m)) ρ i j:=by
 unfold sI at h
 rw [aS] at h
 split at h
 ·rename_i h1;exact ⟨i,h,.inl (.inl ⟨aO.1 h1,rfl⟩)⟩
 ·rename_i h1
  have h1:ng≤i.num:=by
   have:¬ i.n<ng:=fun h'=>h1 (aO.2 h')
   exact Nat.not_lt.1 this
  rw [aS] at h
  split at h
  ·rw [UE] at h
   split at h
   ·rename_i j hj;exact ⟨j,h,.inl (.inr ⟨h1,hj⟩)⟩
   ·exact absurd h he
  ·rename_i h2
   have h2:¬ i.n<m:=fun h'=>h2 (aO.2 h')
   obtain ⟨h3,h4⟩:=aG h he
   have h3:=aO.1 h3
   rw [aH] at h4
   refine ⟨⟨nx+(i.n-m)⟩,h4,.inr ⟨?_,?_,?_,?_⟩⟩
   ·show m≤i.n;omega
   ·show nx≤nx+(i.n-m);omega
   ·show nx+(i.n-m)<nx+(n-m);omega
   ·show nx+(i.n-m)-nx=i.n-m;omega
noncomputable def sL {R:Type} (s:V→(V→R)→R→R) (l:List V):(List V→R)→R→R:=
 List.rec (motive:=fun _=>(List V→R)→R→R) (fun K _=>K []) (fun x _ ih K e=>s x (fun y=>ih (fun ys=>K (y::ys)) e) e) l
noncomputable def sV {R:Type} (ng m n nx:Nat) (ρ:Tr B):Nat→V→(V→R)→R→R
 | 0,_,_,e=>e
 | d+1,v,K,e=>match v with
   | .bool b=>K (.bool b)
   | .int k x=>K (.int k x)
   | .str l x=>K (.str l x)
   | .dN=>K .dN
   | .ptr i o=>sI ng m n nx ρ i (fun j=>K (.ptr j o)) e
   | .aj=>K .aj
   | .gI=>K .gI
   | .sl i sz o l c=>sI ng m n nx ρ i (fun j=>K (.sl j sz o l c)) e
   | .iw=>K .iw
   | .map i=>sI ng m n nx ρ i (fun j=>K (.map j)) e
   | .iF=>K .iF
   | .fn f fs cs=>sL (sV ng m n nx ρ d) fs (fun fs=>sL (sV ng m n nx ρ d) cs (fun cs=>K (.fn f fs cs)) e) e
   | .iM=>K .iM
   | .ifc t v=>sV ng m n nx ρ d v (fun v=>K (.ifc t v)) e
   | .agg cs=>sL (sV ng m n nx ρ d) cs (fun cs=>K (.agg cs)) e
   | .tup cs=>sL (sV ng m n nx ρ d) cs (fun cs=>K (.tup cs)) e
   | .any=>K .any
   | .undef=>e
def ER (R:Type) (E:B→B→Prop) (s:V→(V→R)→R→R):Prop:=∀ v K e r,s v K e=r→e≠r→∃ v',K v'=r∧dH (fun j i=>E i j) v' v
theorem F6 {R:Type} {E:B→B→Prop} {s:V→(V→R)→R→R} (hs:ER R E s):∀ (l:List V) (K:List V→R) (e r:R),sL s l K e=r→e≠r→∃ l',K l'=r∧rM (fun j i=>E i j) l' l
 | [],K,e,r,h,_=>⟨[],h,.nil⟩
 | x::l,K,e,r,h,he=>by
   have h':s x (fun y=>sL s l (fun ys=>K (y::ys)) e) e=r:=h
   obtain ⟨y,k1,k2⟩:=hs x _ e r h' he
   obtain ⟨ys,k3,k4⟩:=F6 hs l _ e r k1 he
   exact ⟨y::ys,k3,.cons k2 k4⟩
theorem WE {R:Type} {ng m n nx:Nat} {ρ:Tr B}:∀ d,ER R (ED ng m nx (nx+(n-m)) ρ) (sV ng m n nx ρ d)
 | 0=>fun v K e r h he=>absurd h he
 | d+1=>fun v K e r h he=>by
   have ih:=WE (R:=R) (ng:=ng) (m:=m) (n:=n) (nx:=nx) (ρ:=ρ) d
   cases v with
   | bool b=>exact ⟨_,h,.bool b⟩
   | int k x=>exact ⟨_,h,.int k x⟩
   | str l x=>exact ⟨_,h,.str l x⟩
   | dN=>exact ⟨_,h,.dN⟩
   | ptr i o=>
     obtain ⟨j,k1,k2⟩:=Qo (show sI ng m n nx ρ i (fun j=>K (.ptr j o)) e=r from h) he
     exact ⟨_,k1,.ptr _ _ _ k2⟩
   | aj=>exact ⟨_,h,.aj⟩
   | gI=>exact ⟨_,h,.gI⟩
   | sl i sz o l c=>
     obtain ⟨j,k1,k2⟩:=Qo (show sI ng m n nx ρ i (fun j=>K (.sl j sz o l c)) e=r from h) he
     exact ⟨_,k1,.sl _ _ _ _ _ _ k2⟩
   | iw=>exact ⟨_,h,.iw⟩
   | map i=>
     obtain ⟨j,k1,k2⟩:=Qo (show sI ng m n nx ρ i (fun j=>K (.map j)) e=r from h) he
     exact ⟨_,k1,.map _ _ k2⟩
   | iF=>exact ⟨_,h,.iF⟩
   | fn f fs cs=>
     obtain ⟨fs',k1,k2⟩:=F6 ih fs _ e r (show sL (sV ng m n nx ρ d) fs (fun fs=>sL (sV ng m n nx ρ d) cs (fun cs=>K (.fn f fs cs)) e) e=r from h) he
     obtain ⟨cs',k3,k4⟩:=F6 ih cs _ e r k1 he
     exact ⟨_,k3,.fn _ _ _ _ _ k2.1 k2.2 k4.1 k4.2⟩
   | iM=>exact ⟨_,h,.iM⟩
   | ifc t v=>
     obtain ⟨v',k1,k2⟩:=ih v _ e r (show sV ng m n nx ρ d v (fun v=>K (.ifc t v)) e=r from h) he
     exact ⟨_,k1,.ifc _ _ _ k2⟩
   | agg cs=>
     obtain ⟨cs',k1,k2⟩:=F6 ih cs _ e r (show sL (sV ng m n nx ρ d) cs (fun cs=>K (.agg cs)) e=r from h) he
     exact ⟨_,k1,.agg _ _ k2.1 k2.2⟩
   | tup cs=>
     obtain ⟨cs',k1,k2⟩:=F6 ih cs _ e r (show sL (sV ng m n nx ρ d) cs (fun cs=>K (.tup cs)) e=r from h) he
     exact ⟨_,k1,.tup _ _ k2.1 k2.2⟩
   | any=>exact ⟨_,h,.any⟩
   | undef=>exact absurd h he
inductive SO (E:B→B→Prop):FO→Obj→Prop
 | blk (ro:Bool) (sz:Nat) (cs cs':List V):rM (fun j i=>E i j) cs' cs→SO E (.blk ro sz cs) (.blk ro sz cs'.length (eu cs' .lf 0))
 | map (kt:Nat) (es es':List (V×V)):es'.length=es.length→(∀ (i:Nat) e' e,es'[i]?=some e'→es[i]?=some e→dH (fun j i=>E i j) e'.1 e.1∧dH (fun j i=>E i j) e'.2 e.2)→SO E (.map kt es) (.map kt es')
noncomputable def sEs {R:Type} (s:V→(V→R)→R→R) (l:List (V×V)):(List (V×V)→R)→R→R:=
 List.rec (motive:=fun _=>(List (V×V)→R)→R→R) (fun K _=>K []) (fun x _ ih K e=>s x.1 (fun a=>s x.2 (fun b=>ih (fun ys=>K ((a,b)::ys)) e) e) e) l
noncomputable def sO {R:Type} (s:V→(V→R)→R→R) (fo:FO) (K:Obj→R) (e:R):R:=match fo with
 | .blk ro sz cs=>sL s cs (fun cs=>ou cs .lf 0 fun tr=>aV cs.length fun h=>K (.blk ro sz h tr)) e
 | .map kt es=>sEs s es (fun es=>K (.map kt es)) e
theorem WG {R:Type} {E:B→B→Prop} {s:V→(V→R)→R→R} (hs:ER R E s):∀ (l:List (V×V)) (K:List (V×V)→R) (e r:R),sEs s l K e=r→e≠r→∃ l',K l'=r∧l'.length=l.length ∧
  ∀ (i:Nat) e' e,l'[i]?=some e'→l[i]?=some e→dH (fun j i=>E i j) e'.1 e.1∧dH (fun j i=>E i j) e'.2 e.2
 | [],K,e,r,h,_=>⟨[],h,rfl,fun i a b ha=>by simp at ha⟩
 | x::l,K,e,r,h,he=>by
   have h':s x.1 (fun a=>s x.2 (fun b=>sEs s l (fun ys=>K ((a,b)::ys)) e) e) e=r:=h
   obtain ⟨a,k1,k2⟩:=hs _ _ e r h' he
   obtain ⟨b,k3,k4⟩:=hs _ _ e r k1 he
   obtain ⟨l',k5,k6,k7⟩:=WG hs l _ e r k3 he
   refine ⟨(a,b)::l',k5,by simp [k6],fun i u v hu hv=>?_⟩
   cases i with
   | zero=>simp at hu hv;subst hu;subst hv;exact ⟨k2,k4⟩
   | succ i=>simp at hu hv;exact k7 i u v hu hv
theorem akv {R:Type} {E:B→B→Prop} {s:V→(V→R)→R→R} (hs:ER R E s) {fo:FO} {K:Obj→R} {e r:R} (h:sO s fo K e=r) (he:e≠r):∃ o,K o=r∧SO E fo o:=by
 cases fo with
 | blk ro sz cs=>
   obtain ⟨cs',k1,k2⟩:=F6 hs cs _ e r (show sL s cs (fun cs=>ou cs .lf 0 fun tr=>aV cs.length fun h=>K (.blk ro sz h tr)) e=r from h) he
   rw [dX,aH] at k1
   exact ⟨_,k1,.blk ro sz cs cs' k2⟩
 | map kt es=>
   obtain ⟨es',k1,k2,k3⟩:=WG hs es _ e r (show sEs s es (fun es=>K (.map kt es)) e=r from h) he
   exact ⟨_,k1,.map kt es es' k2 k3⟩
noncomputable def psK {R:Type} (s:V→(V→R)→R→R) (si:B→(B→R)→R→R) (l:List (Nat×FO)):Tr Obj→(Tr Obj→R)→R→R:=
 List.rec (motive:=fun _=>Tr Obj→(Tr Obj→R)→R→R) (fun t K _=>K t) (fun x _ ih t K e=>si (bOf x.1) (fun j=>sO s x.2 (fun o=>j.jQ t (some o) fun t=>ih t K e) e) e) l
def Qg (R:Type) (E:B→B→Prop) (si:B→(B→R)→R→R):Prop:=∀ i K e r,si i K e=r→e≠r→∃ j,K j=r∧E i j
theorem Xq {R:Type} {E:B→B→Prop} {s:V→(V→R)→R→R} {si:B→(B→R)→R→R} (hs:ER R E s) (hi:Qg R E si):∀ (l:List (Nat×FO)) (t:Tr Obj) (K:Tr Obj→R) (e r:R),psK s si l t K e=r→e≠r →
  ∃ t',K t'=r∧(∀ (j:B) p,j.get t'=some p→(∃ x∈l,E (bOf x.1) j∧SO E x.2 p)∨j.get t=some p)∧∀ j:B,(∀ x∈l,¬ E (bOf x.1) j)→j.get t'=j.get t
 | [],t,K,e,r,h,_=>⟨t,h,fun j p hp => .inr hp,fun _ _=>rfl⟩
 | x::l,t,K,e,r,h,he=>by
   have h':si (bOf x.1) (fun j=>sO s x.2 (fun o=>j.jQ t (some o) fun t=>psK s si l t K e) e) e=r:=h
   obtain ⟨j,k1,k2⟩:=hi _ _ e r h' he
   obtain ⟨o,k3,k4⟩:=akv hs k1 he
   rw [B.eP] at k3
   obtain ⟨t',k5,k6,k7⟩:=Xq hs hi l _ K e r k3 he
   refine ⟨t',k5,fun a p hp=>?_,fun a ha=>?_⟩
   ·rcases k6 a p hp with ⟨y,q1,q2⟩ | q
    ·exact .inl ⟨y,List.mem_cons_of_mem _ q1,q2⟩
    ·rw [B.get_put] at q
     split at q
     ·rename_i e1
      subst e1
      cases q
      exact .inl ⟨x,List.mem_cons_self,k2,k4⟩
     ·exact .inr q
   ·rw [k7 a fun y hy=>ha y (List.mem_cons_of_mem _ hy),B.get_put,if_neg]
    rintro rfl
    exact ha x List.mem_cons_self k2
noncomputable def rmK {R:Type} (si:B→(B→R)→R→R) (l:List Nat):Tr Obj→(Tr Obj→R)→R→R:=
 List.rec (motive:=fun _=>Tr Obj→(Tr Obj→R)→R→R) (fun t K _=>K t) (fun x _ ih t K e=>si (bOf x) (fun j=>j.jQ t none fun t=>ih t K e) e) l
theorem WR {R:Type} {E:B→B→Prop} (hf:∀ i j k,E i j→E i k→j=k) {si:B→(B→R)→R→R} (hi:Qg R E si):∀ (l:List Nat) (t:Tr Obj) (K:Tr Obj→R) (e r:R),rmK si l t K e=r→e≠r →
  ∃ t',K t'=r∧(∀ (j:B) p,j.get t'=some p→j.get t=some p∧∀ x∈l,¬ E (bOf x) j)∧∀ j:B,(∀ x∈l,¬ E (bOf x) j)→j.get t'=j.get t
 | [],t,K,e,r,h,_=>⟨t,h,fun j p hp=>⟨hp,fun x hx=>by cases hx⟩,fun _ _=>rfl⟩
 | x::l,t,K,e,r,h,he=>by
   have h':si (bOf x) (fun j=>j.jQ t none fun t=>rmK si l t K e) e=r:=h
   obtain ⟨j,k1,k2⟩:=hi _ _ e r h' he
   rw [B.eP] at k1
   obtain ⟨t',k5,k6,k7⟩:=WR hf hi l _ K e r k1 he
   refine ⟨t',k5,fun a p hp=>?_,fun a ha=>?_⟩
   ·obtain ⟨q1,q2⟩:=k6 a p hp
    rw [B.get_put] at q1
    split at q1
    ·cases q1
    ·rename_i hne
     refine ⟨q1,fun y hy hE=>?_⟩
     rcases List.mem_cons.1 hy with rfl | hy
     ·exact hne (hf _ _ _ hE k2)
     ·exact q2 y hy hE
   ·rw [k7 a fun y hy=>ha y (List.mem_cons_of_mem _ hy),B.get_put,if_neg]
    rintro rfl
    exact ha x List.mem_cons_self k2
noncomputable def VD (q:V→V→Bool) (a:List V):List V→Bool:=
 List.rec (motive:=fun _=>List V→Bool) (fun b=>match b with | []=>true | _=>false) (fun x _ ih b=>match b with | y::ys=>and (q x y) (ih ys) | []=>false) a
noncomputable def eqX:Nat→V→V→Bool
 | 0,_,_=>false
 | d+1,a,b=>match a,b with
   | .bool x,.bool y=>tK x y
   | .int k x,.int k' y=>and (Nat.beq (ikN k) (ikN k')) (eqI x y)
   | .str l x,.str l' y=>strEq l x l' y
   | .dN,.dN=>true
   | .ptr i o,.ptr j o'=>and (Nat.beq i.n j.n) (Nat.beq o o')
   | .aj,.aj=>true
   | .gI,.gI=>true
   | .sl i sz o l c,.sl j sz' o' l' c'=>and (Nat.beq i.n j.n) (and (and (Nat.beq sz sz') (Nat.beq o o')) (and (Nat.beq l l') (eqO c c')))
   | .iw,.iw=>true
   | .map i,.map j=>Nat.beq i.n j.n
   | .iF,.iF=>true
   | .fn f fs cs,.fn f' fs' cs'=>and (Nat.beq f f') (and (VD (eqX d) fs fs') (VD (eqX d) cs cs'))
   | .iM,.iM=>true
   | .ifc t v,.ifc t' v'=>and (Nat.beq t t') (eqX d v v')
   | .agg cs,.agg cs'=>VD (eqX d) cs cs'
   | .tup cs,.tup cs'=>VD (eqX d) cs cs'
   | .any,.any=>true
   | _,_=>false
theorem xQ {q:V→V→Bool} (hq:∀ a b,q a b=true→a=b):∀ a b,VD q a b=true→a=b
 | [],[],_=>rfl
 | [],_::_,h=>by cases h
 | _::_,[],h=>by cases h
 | x::a,y::b,h=>by
   obtain ⟨h1,h2⟩:=aB (show and (q x y) (VD q a b)=true from h)
   rw [hq x y h1,xQ hq a b h2]
theorem Eb:∀ d a b,eqX d a b=true→a=b
 | 0,_,_,h=>by cases h
 | d+1,a,b,h=>by
   have ih:=Eb d
   unfold eqX at h
   split at h
   ·rw [lN.1 h]
   ·obtain ⟨h3,h4⟩:=aB h
    rw [kH h3,JG h4]
   ·obtain ⟨rfl,rfl⟩:=FX h;rfl
   ·rfl
   ·obtain ⟨h1,h2⟩:=aB h
    rw [B.eX (beq_iff.1 h1),beq_iff.1 h2]
   ·rfl
   ·rfl
   ·obtain ⟨h0,h⟩:=aB h
    obtain ⟨h3,h4⟩:=aB h
    obtain ⟨h5,h6⟩:=aB h3
    obtain ⟨h7,h8⟩:=aB h4
    rw [B.eX (beq_iff.1 h0),beq_iff.1 h5,beq_iff.1 h6,beq_iff.1 h7,JF h8]
   ·rfl
   ·rw [B.eX (beq_iff.1 h)]
   ·rfl
   ·obtain ⟨h0,h⟩:=aB h
    obtain ⟨h1,h2⟩:=aB h
    rw [beq_iff.1 h0,xQ ih _ _ h1,xQ ih _ _ h2]
   ·rfl
   ·obtain ⟨h0,h⟩:=aB h
    rw [beq_iff.1 h0,ih _ _ h]
   ·rw [xQ ih _ _ h]
   ·rw [xQ ih _ _ h]
   ·rfl
   ·cases h
inductive FO.In:FO→Obj→Prop
 | blk (ro:Bool) (sz sz' hi:Nat) (cs:List V) (cs':Tr V):sz≤sz'→(∀ (j:Nat) v,cs[j]?=some v→(bOf j).get cs'=some v)→FO.In (.blk ro sz cs) (.blk ro sz' hi cs')
 | map (kt:Nat) (es:List (V×V)):FO.In (.map kt es) (.map kt es)
noncomputable def acw (cs':Tr V) (cs:List V):Nat→Bool:=
 List.rec (motive:=fun _=>Nat→Bool) (fun _=>true) (fun x _ ih off=>Option.rec (motive:=fun _=>Bool) false (fun y=>and (eqX 4 x y) (ih (Nat.succ off))) ((bOf off).get cs')) cs
noncomputable def aiW (a:List (V×V)):List (V×V)→Bool:=
 List.rec (motive:=fun _=>List (V×V)→Bool) (fun b=>match b with | []=>true | _=>false) (fun x _ ih b=>match b with | y::ys=>and (and (eqX 4 x.1 y.1) (eqX 4 x.2 y.2)) (ih ys) | []=>false) a
noncomputable def inO (fo:FO) (o:Option Obj):Bool:=match fo,o with
 | .blk ro sz cs,some (.blk ro' sz' _ cs')=>and (tK ro ro') (and (Nat.ble sz sz') (acw cs' cs 0))
 | .map kt es,some (.map kt' es')=>and (Nat.beq kt kt') (aiW es es')
 | _,_=>false
theorem Jm {cs':Tr V}:∀ (cs:List V) (off:Nat),acw cs' cs off=true→∀ (j:Nat) v,cs[j]?=some v→(bOf (off+j)).get cs'=some v
 | [],_,_,j,v,h=>by simp at h
 | x::cs,off,h,j,v,hv=>by
   have h':Option.rec (motive:=fun _=>Bool) false (fun y=>and (eqX 4 x y) (acw cs' cs (off+1))) ((bOf off).get cs')=true:=h
   cases hg:(bOf off).get cs' with
   | none=>rw [hg] at h';cases h'
   | some y=>
     rw [hg] at h'
     obtain ⟨h1,h2⟩:=aB h'
     have:=Eb 4 x y h1
     subst this
     cases j with
     | zero=>simp at hv;subst hv;exact hg
     | succ j=>
       simp at hv
       rw [← Jm cs (off+1) h2 j v hv]
       congr 2;omega
theorem Ti:∀ a b,aiW a b=true→a=b
 | [],[],_=>rfl
 | [],_::_,h=>by cases h
 | _::_,[],h=>by cases h
 | (x1,x2)::a,(y1,y2)::b,h=>by
   obtain ⟨h1,h2⟩:=aB (show and (and (eqX 4 x1 y1) (eqX 4 x2 y2)) (aiW a b)=true from h)
   obtain ⟨h3,h4⟩:=aB h1
   rw [Eb 4 _ _ h3,Eb 4 _ _ h4,Ti a b h2]
theorem Dn {fo:FO} {o:Option Obj} (h:inO fo o=true):∃ o1,o=some o1∧fo.In o1:=by
 unfold inO at h
 split at h
 ·obtain ⟨h1,h2⟩:=aB h
  obtain ⟨h3,h4⟩:=aB h2
  have:=lN.1 h1;subst this
  exact ⟨_,rfl,.blk _ _ _ _ _ _ (aX.1 h3) fun j v hv=>by simpa using Jm _ 0 h4 j v hv⟩
 ·obtain ⟨h1,h2⟩:=aB h
  have:=beq_iff.1 h1;subst this
  have:=Ti _ _ h2;subst this
  exact ⟨_,rfl,.map _ _⟩
 ·cases h
structure aZ (P:Program) (T:Nat→TE) (w0:World) (ng f:Nat) (F:Fact):Prop where
 ngm:ng≤F.m
 mle:F.m≤F.n
 cover:∀ x∈F.pre,x.1∈F.gone∨x.1∈F.same
 aip:∀ i∈F.gone,∃ fo,(i,fo)∈F.pre
 ahK:∀ x∈F.post,F.m≤x.1∨∃ fo,(x.1,fo)∈F.pre
 run:∃ t1,rP P T w0 ng f F.args (eF F.pre .lf) ⟨F.m⟩ F.v t1 ⟨F.n⟩∧(∀ x∈F.post,∃ o1,(bOf x.1).get t1=some o1∧x.2.In o1)∧∀ x∈F.pre,x.1∈F.same→∃ o1,(bOf x.1).get t1=some o1∧x.2.In o1
noncomputable def A8 (ng:Nat) (F:Fact) (args:List V) (t:Tr Obj) (nx:B) (e:FR):FR:=
 aI (Nat.ble ng nx.n) (uL (uV ng F.m nx.n 4) F.args args .lf .lf (fun ρ σ=>uOs (uV ng F.m nx.n 4) ng t F.pre ρ σ (fun ρ _=>
  rmK (sI ng F.m F.n nx.n ρ) F.gone t (fun t=>psK (sV ng F.m F.n nx.n ρ 4) (sI ng F.m F.n nx.n ρ) F.post t (fun t=>sV ng F.m F.n nx.n ρ 4 F.v (fun v=>aV (Nat.add nx.n (Nat.sub F.n F.m)) fun k => .ret v t ⟨k⟩) e) e) e) e) e) e
section
variable {P:Program} {T:Nat→TE} {w0:World} {ng:Nat}
theorem U8 {D:B→B→Prop} {k:SK} {a b:V} (h:dH D a b):iC k a=iC k b:=by
 cases h<;>first | rfl | (cases k<;>rfl)
theorem F8 {D:B→B→Prop}:∀ {ks:List SK} {a b:List V},rM D a b→fits ks a=fits ks b
 | [],[],[],_=>rfl
 | [],[],_::_,h=>absurd h.1 (by simp)
 | [],_::_,[],h=>absurd h.1 (by simp)
 | [],_::_,_::_,_=>rfl
 | k::ks,[],[],_=>rfl
 | k::ks,[],_::_,h=>absurd h.1 (by simp)
 | k::ks,_::_,[],h=>absurd h.1 (by simp)
 | k::ks,x::a,y::b,h=>by
   show and (iC k x) (fits ks a)=and (iC k y) (fits ks b)
   rw [U8 (h.2 0 x y rfl rfl),F8 (a:=a) (b:=b) ⟨by simpa using h.1,fun i u v hu hv=>h.2 (i+1) u v (by simpa using hu) (by simpa using hv)⟩]
theorem qF {D:B→B→Prop} {te:TE} {a b:V} (h:dH D a b):bH te a=bH te b:=by
 have h1:∀ (x y:V),dH D x y→rM D [x] [y]:=fun x y h => .cons h .nil
 have h2:rM D (cellsOf a) (cellsOf b)∧asAgg a (fun _=>true) false=asAgg b (fun _=>true) false:=by
  cases h with
  | agg cs cs' k1 k2=>exact ⟨⟨k1,k2⟩,rfl⟩
  | bool b=>exact ⟨h1 _ _ (.bool b),rfl⟩
  | int k m=>exact ⟨h1 _ _ (.int k m),rfl⟩
  | str l m=>exact ⟨h1 _ _ (.str l m),rfl⟩
  | dN=>exact ⟨h1 _ _ .dN,rfl⟩
  | ptr i j o h=>exact ⟨h1 _ _ (.ptr i j o h),rfl⟩
  | aj=>exact ⟨h1 _ _ .aj,rfl⟩
  | gI=>exact ⟨h1 _ _ .gI,rfl⟩
  | sl i j sz o l c h=>exact ⟨h1 _ _ (.sl i j sz o l c h),rfl⟩
  | iw=>exact ⟨h1 _ _ .iw,rfl⟩
  | map i j h=>exact ⟨h1 _ _ (.map i j h),rfl⟩
  | iF=>exact ⟨h1 _ _ .iF,rfl⟩
  | fn f fs fs' cs cs' k1 k2 k3 k4=>exact ⟨h1 _ _ (.fn f fs fs' cs cs' k1 k2 k3 k4),rfl⟩
  | iM=>exact ⟨h1 _ _ .iM,rfl⟩
  | ifc t v v' h=>exact ⟨h1 _ _ (.ifc t v v' h),rfl⟩
  | tup cs cs' k1 k2=>exact ⟨h1 _ _ (.tup cs cs' k1 k2),rfl⟩
  | any=>exact ⟨h1 _ _ .any,rfl⟩
 unfold bH
 rw [F8 h2.1,h2.2]
theorem UO.pull {D:B→B→Prop} {fo:FO} {o:Obj} (h:UO D fo o):zu T D fo.obj o:=by
 cases h with
 | blk ro sz cs cs' h=>
   refine .blk ro sz sz _ _ _ _ (Nat.le_refl _) fun j v hv=>?_
   rw [bT] at hv
   split at hv
   ·rename_i hj
    rw [Nat.sub_zero] at hv
    exact ⟨by omega,h j v hv⟩
   ·rw [B.bW] at hv;cases hv
 | map kt es es' h1 h2=>
   refine .map kt es es' h1 h2 fun hk e he=>?_
   obtain ⟨i,hi⟩:=List.getElem?_of_mem he
   obtain ⟨e',he'⟩:=eH h1 hi
   rw [qF (h2 i e e' hi he').1]
   exact hk e' (List.mem_of_getElem? he')
theorem UO.push {D E:B→B→Prop} (hD:∀ i j,D i j→E i j) {fo:FO} {o o1:Obj} (h:UO D fo o) (hh:akj o) (hi:fo.In o1):zu T (fun j i=>E i j) o o1:=by
 cases h with
 | blk ro sz cs cs' h=>
   cases hi with
   | blk _ _ sz1 hi1 _ cs1 k1 k2=>
     refine .blk ro sz sz1 _ _ _ _ k1 fun j v hv=>?_
     have hj:=hh j v hv
     have ha:cs[j]?=some cs[j]:=List.getElem?_eq_getElem hj
     obtain ⟨b,q1,q2⟩:=h j _ ha
     rw [hv] at q1
     cases q1
     exact ⟨hj,_,k2 j _ ha,(q2.mono hD).symm⟩
 | map kt es es' h1 h2=>
   cases hi with
   | map _ _=>
     refine .map kt es' es h1.symm (fun i e e' he he'=>?_) fun hk e he=>?_
     ·obtain ⟨a,b⟩:=h2 i e' e he' he
      exact ⟨(a.mono hD).symm,(b.mono hD).symm⟩
     ·obtain ⟨i,hi⟩:=List.getElem?_of_mem he
      obtain ⟨e',he'⟩:=eH h1.symm hi
      rw [← qF (h2 i e' e he' hi).1]
      exact hk e' (List.mem_of_getElem? he')
theorem SO.push {E:B→B→Prop} {fo:FO} {o o1:Obj} (h:SO E fo o) (hi:fo.In o1):zu T (fun j i=>E i j) o o1:=by
 cases h with
 | blk ro sz cs cs' h=>
   cases hi with
   | blk _ _ sz1 hi1 _ cs1 k1 k2=>
     refine .blk ro sz sz1 _ _ _ _ k1 fun j v hv=>?_
     rw [bT] at hv
     split at hv
     ·rename_i hj
      rw [Nat.sub_zero] at hv
      obtain ⟨y,hy⟩:=eH h.1 hv
      exact ⟨by omega,y,k2 j y hy,h.2 j v y hv hy⟩
     ·rw [B.bW] at hv;cases hv
 | map kt es es' h1 h2=>
   cases hi with
   | map _ _=>
     refine .map kt es' es h1 h2 fun hk e he=>?_
     obtain ⟨i,hi⟩:=List.getElem?_of_mem he
     obtain ⟨e',he'⟩:=eH h1 hi
     rw [qF (h2 i e e' hi he').1]
     exact hk e' (List.mem_of_getElem? he')
theorem UI.empty {ng m nx:Nat}:UI ng m nx .lf .lf:=⟨fun i j h=>(by rw [B.bW] at h;cases h),fun i j h=>(by rw [B.bW] at h;cases h)⟩
theorem aZ.met {f:Nat} {F:Fact} (hF:aZ P T w0 ng f F) {args:List V} {t:Tr Obj} {nx:B} {e:FR} {v:V} {t':Tr Obj} {nx':B} (h:A8 ng F args t nx e = .ret v t' nx') :
  e = .ret v t' nx'∨rP P T w0 ng f args t nx v t' nx':=by
 by_cases he:e = .ret v t' nx'
 ·exact .inl he
 right
 unfold A8 at h
 obtain ⟨h0,h⟩:=aG h he
 have h0:ng≤nx.num:=aX.1 h0
 obtain ⟨ρ1,σ1,h,u1,x1,ra⟩:=FQ (V3 4) _ _ _ _ _ _ _ h he UI.empty
 obtain ⟨ρ,σ,h,u2,x2,ro⟩:=V4 (V3 4) _ _ _ _ _ _ h he u1
 have ra:=ra.mono fun i j (hd:Dof ng ρ1 i j)=>hd.mono x2
 let E:=ED ng F.m nx.num (nx.num+(F.n-F.m)) ρ
 have hsi:Qg FR E (sI ng F.m F.n nx.n ρ):=fun i K e r h he=>Qo h he
 have hf1:∀ i j k,Dof ng ρ i j→Dof ng ρ i k→j=k:=fun i j k h1 h2=>by
  rcases h1 with ⟨a1,a2⟩ | ⟨a1,a2⟩<;>rcases h2 with ⟨b1,b2⟩ | ⟨b1,b2⟩
  ·rw [← a2,b2]
  ·omega
  ·omega
  ·rw [a2] at b2;exact Option.some.inj b2
 have hlow:∀ i j,Dof ng ρ i j→i.num<F.m∧j.num<nx.num:=fun i j h=>by
  have:=hF.ngm
  rcases h with ⟨a1,a2⟩ | ⟨a1,a2⟩
  ·subst a2;exact ⟨by omega,by omega⟩
  ·obtain ⟨_,_,q1,_,q2⟩:=u2.to i j a2;exact ⟨q1,q2⟩
 have hf2:∀ i j k,Dof ng ρ i k→Dof ng ρ j k→i=j:=fun i j k h1 h2=>by
  rcases h1 with ⟨a1,a2⟩ | ⟨a1,a2⟩<;>rcases h2 with ⟨b1,b2⟩ | ⟨b1,b2⟩
  ·rw [a2,b2]
  ·obtain ⟨_,_,_,q,_⟩:=u2.to j k b2;subst a2;omega
  ·obtain ⟨_,_,_,q,_⟩:=u2.to i k a2;subst b2;omega
  ·have q1:=(u2.to i k a2).1;have q2:=(u2.to j k b2).1
   rw [q1] at q2;exact Option.some.inj q2
 have hfE:∀ i j k,E i j→E i k→j=k:=fun i j k h1 h2=>by
  rcases h1 with h1 | ⟨a1,a2,a3,a4⟩<;>rcases h2 with h2 | ⟨b1,b2,b3,b4⟩
  ·exact hf1 i j k h1 h2
  ·exact absurd (hlow i j h1).1 (by omega)
  ·exact absurd (hlow i k h2).1 (by omega)
  ·exact B.eX (by omega)
 obtain ⟨ta,h,r1,r2⟩:=WR hfE hsi _ _ _ _ _ h he
 obtain ⟨tb,h,p1,p2⟩:=Xq (E:=E) (WE 4) hsi _ _ _ _ _ h he
 obtain ⟨v1,h,hv⟩:=WE (R:=FR) 4 _ _ _ _ h he
 rw [aH] at h
 cases h
 obtain ⟨t1,hc,c1,c2⟩:=hF.run
 have hpre:∀ (i:B) (o:Obj),i.get (eF F.pre .lf)=some o→∃ fo,(i.num,fo)∈F.pre∧o=fo.obj:=fun i o ho=>by
  rcases qJ F.pre .lf i o ho with h | h
  ·exact h
  ·rw [B.bW] at h;cases h
 have hin:∀ (k:Nat) fo,(k,fo)∈F.pre→∀ j,E (bOf k) j→k<F.m→∃ i o,B.get i (eF F.pre .lf)=some o∧Dof ng ρ i j:=fun k fo hk j hE hm=>by
  have:=Gf F.pre .lf (bOf k) (.inr ⟨fo,hk⟩)
  obtain ⟨o,ho⟩:=Option.isSome_iff_exists.1 this
  rcases hE with hE | ⟨a1,_⟩
  ·exact ⟨_,o,ho,hE⟩
  ·exact absurd a1 (by show ¬ F.m≤k;omega)
 have hpm:∀ x∈F.pre,x.1<F.m:=fun x hx=>by
  obtain ⟨j,o,d1,_⟩:=ro x hx
  exact (hlow _ _ d1).1
 refine rP.ren hc hF.ngm hF.mle (D:=Dof ng ρ) (fun i hi => .inl ⟨hi,rfl⟩) hf1 hf2 hlow rfl ra (fun i o ho=>?_) hv (fun i j o p ho hd hp hh hj p' hp'=>?_) (fun j p' hj hn hp'=>?_) fun j hj hn=>?_
 ·obtain ⟨fo,q1,q2⟩:=hpre i o ho
  obtain ⟨j,p,d1,d2,d3⟩:=ro _ q1
  have:bOf i.num=i:=rfl
  rw [q2]
  exact ⟨j,p,d1,d2,d3.pull⟩
 ·rcases p1 j p' hp' with ⟨x,q1,q2,q3⟩ | q
  ·have hx:bOf x.1=i:=by
    rcases q2 with q2 | ⟨_,a2,_⟩
    ·exact hf2 _ _ _ q2 hd
    ·omega
   obtain ⟨o1,e1,e2⟩:=c1 x q1
   rw [hx] at e1
   exact ⟨o1,e1,q3.push e2⟩
  ·obtain ⟨s1,s2⟩:=r1 j p' q
   rw [hp] at s1
   cases s1
   obtain ⟨fo,q1,q2⟩:=hpre i o ho
   obtain ⟨j2,p2,d1,d2,d3⟩:=ro _ q1
   have:=hf1 _ _ _ d1 hd
   subst this
   rw [hp] at d2
   cases d2
   rcases hF.cover _ q1 with hg | hs
   ·exact absurd (.inl d1) (s2 _ hg)
   ·obtain ⟨o1,e1,e2⟩:=c2 _ q1 hs
    exact ⟨o1,e1,d3.push (fun i j h => .inl h) hh e2⟩
 ·rcases p1 j p' hp' with ⟨x,q1,q2,q3⟩ | q
  ·rcases q2 with q2 | ⟨a1,a2,a3,a4⟩
   ·exact absurd (hlow _ _ q2).2 (by omega)
   ·obtain ⟨o1,e1,e2⟩:=c1 x q1
    exact ⟨a3,bOf x.1,o1,a1,a4,e1,q3.push e2⟩
  ·have:=(r1 j p' q).1
   rw [hn] at this;cases this
 ·rw [p2 j fun x hx hE=>?_,r2 j fun x hx hE=>?_]
  ·obtain ⟨fo,hfo⟩:=hF.aip x hx
   exact hn (hin x fo hfo j hE (hpm _ hfo))
  ·rcases hF.ahK x hx with hm | ⟨fo,hfo⟩
   ·rcases hE with hE | ⟨a1,a2,a3,a4⟩
    ·have:=(hlow _ _ hE).1;have:x.1<F.m:=this;omega
    ·omega
   ·exact hn (hin x.1 fo hfo j hE (hpm (x.1,fo) hfo))
noncomputable def lM (ng:Nat) (Fs:List Fact):List V→Tr Obj→B→FR→FR:=
 List.rec (motive:=fun _=>List V→Tr Obj→B→FR→FR) (fun _ _ _ e=>e) (fun F _ ih args t nx e=>A8 ng F args t nx (ih args t nx e)) Fs
theorem zU {f:Nat}:∀ {Fs:List Fact},(∀ F∈Fs,aZ P T w0 ng f F)→∀ {args:List V} {t:Tr Obj} {nx:B} {e:FR} {v:V} {t':Tr Obj} {nx':B},lM ng Fs args t nx e = .ret v t' nx'→e = .ret v t' nx'∨rP P T w0 ng f args t nx v t' nx'
 | [],_,_,_,_,_,_,_,_,h => .inl h
 | F::Fs,hF,args,t,nx,e,v,t',nx',h=>by
   rcases (hF F List.mem_cons_self).met (show A8 ng F args t nx (lM ng Fs args t nx e)=_ from h) with h | h
   ·exact zU (fun F h=>hF F (List.mem_cons_of_mem _ h)) h
   ·exact .inr h
noncomputable def anY (F:Fact) (r:FR):Bool:=FR.rec (motive:=fun _=>Bool) (fun _=>false) (fun v t nx=>
 and (eqX 4 F.v v) (and (Nat.beq F.n nx.n) (and (List.all F.post fun x=>inO x.2 ((bOf x.1).get t)) (List.all F.pre fun x=>or (iZ x.1 F.gone) (inO x.2 ((bOf x.1).get t)))))) r
noncomputable def dh (T:Nat→TE) (FF:Nat→Option FC) (ng N n f:Nat) (F:Fact):Bool:=
 and (and (Nat.ble ng F.m) (Nat.ble F.m F.n)) (and (and (List.all F.pre fun x=>or (iZ x.1 F.gone) (iZ x.1 F.same)) (and (List.all F.gone fun i=>and (iZ i (F.pre.map (·.1))) (not (iZ i F.same))) (List.all F.post fun x=>or (Nat.ble F.m x.1) (iZ x.1 (F.pre.map (·.1))))))
  (Vb F.pre .lf fun t=>anY F (rF T FF ng N n f F.args t ⟨F.m⟩)))
theorem Xu {a b:Bool} (h:or a b=true):a=true∨b=true:=(Xv a b).1 h
theorem ZN (hT:TOK P T) {FF:Nat→Option FC} (hF:dK P T w0 ng FF) {N n f:Nat} (hb:∃ fn,P.funcs[f]?=some fn∧fn.body.isNone=false) {F:Fact} (h:dh T FF ng N n f F=true):aZ P T w0 ng f F:=by
 obtain ⟨h1,h2⟩:=aB h
 obtain ⟨h3,h4⟩:=aB h1
 obtain ⟨h5,h6⟩:=aB h2
 obtain ⟨h7,h8⟩:=aB h5
 obtain ⟨h9,h10⟩:=aB h8
 rw [wR] at h6
 have hmem:∀ i,iZ i (F.pre.map (·.1))=true→∃ fo,(i,fo)∈F.pre:=fun i hi=>by
  obtain ⟨x,hx,hxi⟩:=List.mem_map.1 (fH.1 hi)
  exact ⟨x.2,by rw [← hxi];exact hx⟩
 refine ⟨aX.1 h3,aX.1 h4,fun x hx=>(Xu (List.all_eq_true.1 h7 x hx)).imp fH.1 fH.1,fun i hi=>hmem i (aB (List.all_eq_true.1 h9 i hi)).1,fun x hx=>(Xu (List.all_eq_true.1 h10 x hx)).imp aX.1 (hmem x.1),?_⟩
 generalize hr:rF T FF ng N n f F.args (eF F.pre .lf) ⟨F.m⟩=r at h6
 cases r with
 | bad k=>cases h6
 | ret v t nx=>
   obtain ⟨k1,k2⟩:=aB (show and (eqX 4 F.v v) (and (Nat.beq F.n nx.n) (and (List.all F.post fun x=>inO x.2 ((bOf x.1).get t)) (List.all F.pre fun x=>or (iZ x.1 F.gone) (inO x.2 ((bOf x.1).get t)))))=true from h6)
   obtain ⟨k3,k4⟩:=aB k2
   obtain ⟨k5,k6⟩:=aB k4
   have e1:=Eb 4 _ _ k1
   have e2:nx=⟨F.n⟩:=B.eX (show nx.n=F.n from (beq_iff.1 k3).symm)
   have hc:rP P T w0 ng f F.args (eF F.pre .lf) ⟨F.m⟩ v t nx:=by
    rcases rE hT hF N n f _ _ _ _ _ _ hr with h | ⟨_,_,⟨fn,q1,q2⟩,_⟩
    ·exact h
    ·obtain ⟨fn',p1,p2⟩:=hb
     rw [q1] at p1
     cases p1
     rw [q2] at p2
     cases p2
   rw [← e1,e2] at hc
   refine ⟨t,hc,fun x hx=>Dn (List.all_eq_true.1 k5 x hx),fun x hx hs=>?_⟩
   rcases Xu (List.all_eq_true.1 k6 x hx) with h | h
   ·have:=(aB (List.all_eq_true.1 h9 x.1 (fH.1 h))).2
    rw [Bool.not_eq_true',← Bool.not_eq_true] at this
    exact absurd (fH.2 hs) this
   ·exact Dn h
end
abbrev Pre:=List V→Tr Obj→B→FR→FR
def ES (P:Program) (T:Nat→TE) (w0:World) (ng f:Nat) (pre:Pre):Prop:=∀ args t nx e v t' nx',pre args t nx e = .ret v t' nx'→Comes P T w0 ng f args t nx v t' nx'∨e = .ret v t' nx'
noncomputable def a2 {R:Type} (l:List V):(V→V→R)→R→R:=match l with | [a,b]=>fun K _=>K a b | _=>fun _ e=>e
theorem aho {R:Type} {l:List V} {K:V→V→R} {e r:R} (h:a2 l K e=r) (he:e≠r):∃ a b,l=[a,b]∧K a b=r:=by
 match l,h with
 | [a,b],h=>exact ⟨a,b,rfl,h⟩
 | [],h=>exact absurd h he
 | [_],h=>exact absurd h he
 | _::_::_::_,h=>exact absurd h he
noncomputable def kP (l n l' n':Nat):Int:=match strLt l n l' n' with | true=>-1 | false=>match strEq l n l' n' with | true=>0 | false=>1
noncomputable def OU:Pre:=fun args t nx _=>a2 args (fun a b=>gq a (fun l n=>gq b (fun l' n'=>lK (kP l n l' n') fun c => .ret (.int .i64 c) t nx) (.bad 201)) (.bad 201)) (.bad 201)
theorem qc:∀ a b:List UInt8,Lib.compareBytes a b=if Op.bytesLess a b=true then -1 else if a=b then 0 else 1
 | [],[]=>by simp [Lib.compareBytes,Op.bytesLess]
 | [],_::_=>by simp [Lib.compareBytes,Op.bytesLess]
 | _::_,[]=>by simp [Lib.compareBytes,Op.bytesLess]
 | x::xs,y::ys=>by
   have ih:=qc xs ys
   unfold Lib.compareBytes Op.bytesLess
   by_cases h1:x<y
   ·simp [h1]
   ·by_cases h2:y<x
    ·have:x≠y:=fun e=>by subst e;exact h1 h2
     simp [h1,h2,this]
    ·have e:x=y:=by
      have h3:=UInt8.not_lt.1 h1
      have h4:=UInt8.not_lt.1 h2
      exact UInt8.le_antisymm h4 h3
     subst e
     simp only [UInt8.lt_irrefl,if_false]
     rw [ih]
     simp
section
variable {P:Program} {T:Nat→TE} {w0:World} {ng:Nat}
theorem Gg {f:Nat} {fn:Func} (hf:P.funcs[f]?=some fn) (hname:(fn.name == "runtime.NumGoroutine")=false) (hb:fn.body.isNone=true) (hn:Extern.findNext fn=none) (he:Extern.find fn=some Extern.BytealgCompare.compare):ES P T w0 ng f OU:=by
 intro args t nx e v t' nx' h
 have hbad:∀ n,FR.bad n ≠ .ret v t' nx':=fun n h=>by cases h
 obtain ⟨a,b,rfl,h1⟩:=aho (show a2 args _ _=_ from h) (hbad _)
 obtain ⟨l,n,rfl,h2⟩:=fM h1 (hbad _)
 obtain ⟨l',n',rfl,h3⟩:=fM h2 (hbad _)
 rw [fQ] at h3
 cases h3
 refine .inl (.inr ⟨rfl,rfl,⟨fn,hf,hb⟩,fun g hp w vs g1 g2 g3=>?_⟩)
 obtain ⟨x,vs1,rfl,hx,g3⟩:=g3.inv
 obtain ⟨y,vs2,rfl,hy,g3⟩:=g3.inv
 have:=g3.iI
 subst this
 cases hx with
 | str s hs=>
 cases hy with
 | str s' hs'=>
 refine ⟨_,by rw [run_callFunc_extern hf hname hb hn he];rw [Lib.run_compareString];rfl,?_⟩
 have:kP s.length (aU s) s'.length (aU s')=Lib.compareBytes s s':=by
  rw [qc]
  unfold kP
  rw [oh,wB]
  cases h1:Op.bytesLess s s' with
  | true=>simp
  | false=>
    by_cases h2:s=s'
    ·simp [h2]
    ·have h3:(s==s')=false:=by simpa using h2
     simp [h2,h3]
 rw [this]
 exact .int _ _
end
def acL (nt:Nat):List Oper→Bool
 | []=>true
 | o::os=>and (match o.dst with | some x=>Nat.blt x nt | none=>true) (acL nt os)
theorem JY {nt:Nat}:∀ {os:List Oper},acL nt os=true→∀ o∈os,∀ x,o.dst=some x→x<nt
 | [],_,o,h=>by simp at h
 | p::os,h,o,ho=>by
   obtain ⟨h1,h2⟩:=aB h
   rcases List.mem_cons.1 ho with rfl | ho
   ·intro x hx
    rw [hx] at h1
    exact aO.1 h1
   ·exact JY h2 o ho
def drB (d:Bool) (ops:List Oper) (l:List DI):Bool:=match d with | true=>aac ops l | false=>true
def qg (ann:Nat→List DI) (nt:Nat):Code→Bool
 | .region id ops d=>and (acL nt ops.toList) (drB d ops.toList (ann id))
 | .seq a b=>and (qg ann nt a) (qg ann nt b)
 | .cond _ a b=>and (qg ann nt a) (qg ann nt b)
 | .block _ c=>qg ann nt c
 | .loop c=>qg ann nt c
 | _=>true
section
variable {P:Program} {T:Nat→TE} {w0:World} {ng:Nat}
theorem aa1 (hT:TOK P T) (hm:P.follows .mixedOrders=true) {ann:Nat→List DI} {nt:Nat} (c:Code):qg ann nt c=true→jV P T w0 ng nt ann c:=by
 induction c with
 | region id ops d=>
   intro h
   obtain ⟨h1,h2⟩:=aB (show and (acL nt ops.toList) (drB d ops.toList (ann id))=true from h)
   refine ⟨JY h1,fun hd=>?_⟩
   subst hd
   exact ZY hT hm (JY h1) h2
 | seq a b iha ihb=>
   intro h
   obtain ⟨h1,h2⟩:=aB (show and (qg ann nt a) (qg ann nt b)=true from h)
   exact ⟨iha h1,ihb h2⟩
 | cond x a b iha ihb=>
   intro h
   obtain ⟨h1,h2⟩:=aB (show and (qg ann nt a) (qg ann nt b)=true from h)
   exact ⟨iha h1,ihb h2⟩
 | block _ c ih=>exact fun h=>ih h
 | loop c ih=>exact fun h=>ih h
 | _=>exact fun _=>trivial
def okB (fn:Func) (ann:Nat→List DI):Bool:=and (not (fn.name == "runtime.NumGoroutine")) (match fn.body with | some c=>qg ann fn.ntmps c | none=>false)
theorem ak (hT:TOK P T) (hm:P.follows .mixedOrders=true) {f:Nat} {fn:Func} {ann:Nat→List DI} (h1:P.funcs[f]?=some fn) (h2:okB fn ann=true):aA P T w0 ng f (aC fn ann):=by
 obtain ⟨h3,h4⟩:=aB h2
 cases hb:fn.body with
 | none=>rw [hb] at h4;cases h4
 | some c=>
   rw [hb] at h4
   refine ⟨fn,h1,by simpa using h3,?_,rfl,rfl,?_⟩
   ·simp only [aC,hb]
   ·simp only [aC,hb]
    exact aa1 hT hm c h4
def dZ (P:Program) (T:Nat→TE) (w0:World) (ng:Nat) (f:Nat) (fe:FE):Prop:=
 ∀ args t nx e v t' nx',fe.pre args t nx e = .ret v t' nx'→Comes P T w0 ng f args t nx v t' nx'∨(e = .ret v t' nx'∧aA P T w0 ng f fe)
theorem ah {f:Nat} {fn:Func} {ann:Nat→List DI} (h:aA P T w0 ng f (aC fn ann)):dZ P T w0 ng f (aC fn ann):=fun _ _ _ _ _ _ _ he => .inr ⟨he,h⟩
theorem zZ {f:Nat} {fe:FE} {Fs:List Fact} (h:∀ F∈Fs,aZ P T w0 ng f F) (hb:aA P T w0 ng f fe):dZ P T w0 ng f { fe with pre:=lM ng Fs }:=fun _ _ _ _ _ _ _ he=>by
 rcases zU h he with h1 | h1
 ·exact .inr ⟨h1,hb⟩
 ·exact .inl (.inl h1)
theorem fU {f:Nat} {fe:FE} {pre:Pre} (hp:ES P T w0 ng f pre) (hf:∀ args t nx e,pre args t nx e=pre args t nx (.bad 0)):dZ P T w0 ng f { fe with pre:=pre }:=fun args t nx e v t' nx' he=>by
 have he:pre args t nx e = .ret v t' nx':=he
 rw [hf] at he
 rcases hp _ _ _ _ _ _ _ he with h | h
 ·exact .inl h
 ·cases h
def FT.All (p:Nat→FE→Prop):FT→Prop
 | .nil=>True
 | .leaf f e=>p f e
 | .node _ l r=>l.All p∧r.All p
theorem FT.EP {p:Nat→FE→Prop}:∀ {t:FT},t.All p→∀ f fe,t.look f=some fe→p f fe
 | .nil,_,f,fe,h=>by cases h
 | .leaf g e,ha,f,fe,h=>by
   have h:(match Nat.beq g f with | true=>some e | false=>none)=some fe:=h
   split at h
   ·rename_i hg
    cases h
    rw [← beq_iff.1 hg]
    exact ha
   ·cases h
 | .node m l r,ha,f,fe,h=>by
   have h:(match Nat.blt f m with | true=>l.look f | false=>r.look f)=some fe:=h
   split at h
   ·exact FT.EP ha.1 f fe h
   ·exact FT.EP ha.2 f fe h
theorem FT.fok {t:FT} (h:t.All (dZ P T w0 ng)):FOK P T w0 ng t.look:=fun f fe hf=>FT.EP h f fe hf
end
noncomputable def ovl (T:Nat→TE) (ng k:Nat) (fe:FE) (Fs:List Fact) (FF:Nat→Option FC):Nat→Option FC:=fun f=>match Nat.beq f k with
 | true=>some (Nr T ng { fe with pre:=lM ng Fs })
 | false=>FF f
section
variable {P:Program} {T:Nat→TE} {w0:World} {ng:Nat}
theorem dA {k:Nat} {fe:FE} {Fs:List Fact} {FF:Nat→Option FC} (h:dK P T w0 ng FF) (hf:∀ F∈Fs,aZ P T w0 ng k F) (hb:aA P T w0 ng k fe):dK P T w0 ng (ovl T ng k fe Fs FF):=fun f fc hfc=>by
 have hfc:(match Nat.beq f k with | true=>some (Nr T ng { fe with pre:=lM ng Fs }) | false=>FF f)=some fc:=hfc
 split at hfc
 ·rename_i hk
  cases hfc
  rw [beq_iff.1 hk]
  exact ⟨_,rfl,zZ hf hb⟩
 ·exact h f fc hfc
theorem oO {f:Nat}:∀ F∈([]:List Fact),aZ P T w0 ng f F:=fun _ h=>by cases h
theorem aJ {f:Nat} {F:Fact} {Fs:List Fact} (h:aZ P T w0 ng f F) (hs:∀ F∈Fs,aZ P T w0 ng f F):∀ G∈F::Fs,aZ P T w0 ng f G:=fun G hG=>by
 rcases List.mem_cons.1 hG with rfl | hG
 ·exact h
 ·exact hs G hG
theorem sN (hT:TOK P T) {FF:Nat→Option FC} (hF:dK P T w0 ng FF) {f:Nat} {fe:FE} (hb:aA P T w0 ng f fe) {N n:Nat} {F:Fact} (h:dh T FF ng N n f F=true):aZ P T w0 ng f F:=by
 obtain ⟨fn,h1,_,h3,_⟩:=hb
 exact ZN hT hF ⟨fn,h1,by rw [h3];rfl⟩ h
end
def i6 (n:Nat):V := .int .i64 (.ofNat n)
def n6 (n:Nat):V := .int .i64 (.negSucc n)
def sn (i sz len:Nat):V := .sl ⟨i⟩ sz 0 len none
def sc (i sz off len c:Nat):V := .sl ⟨i⟩ sz off len (some c)
def pt (i:Nat):V := .ptr ⟨i⟩ 0
def bt:V := .bool true
def bf:V := .bool false
def bk (sz:Nat) (cs:List V):FO := .blk false sz cs
def pu1 (k:Nat) (x cs:List V):List V:=cs.take k++(x++cs.drop k)
noncomputable def Ry (tbl:List (Nat×List Fact)):Nat→List Fact:=List.rec (motive:=fun _=>Nat→List Fact) (fun _=>[]) (fun x _ ih n=>aI (Nat.beq x.1 n) x.2 (ih n)) tbl
noncomputable def U0 (tbl:List (Nat×List Fact)) (args:List V):List Fact:=match args with
 | []=>[]
 | x::_=>asAgg x (fun cs=>match cs with | []=>[] | c::_=>gq c (fun _ n=>Ry tbl n) []) []
theorem Vj {tbl:List (Nat×List Fact)} {n:Nat} {F:Fact} (h:F∈Ry tbl n):∃ x∈tbl,F∈x.2:=by
 induction tbl with
 | nil=>exact absurd h (by simp [Ry])
 | cons x tbl ih=>
   have h:F∈aI (Nat.beq x.1 n) x.2 (Ry tbl n):=h
   rw [aS] at h
   split at h
   ·exact ⟨x,List.mem_cons_self,h⟩
   ·obtain ⟨y,hy,hF⟩:=ih h
    exact ⟨y,List.mem_cons_of_mem _ hy,hF⟩
theorem WB {tbl:List (Nat×List Fact)} {args:List V} {F:Fact} (h:F∈U0 tbl args):∃ x∈tbl,F∈x.2:=by
 generalize hL:U0 tbl args=L at h
 have hne:[]≠L:=by rintro rfl;cases h
 unfold U0 at hL
 cases args with
 | nil=>exact absurd hL hne
 | cons x _=>
   obtain ⟨cs,rfl,k1⟩:=oV hL hne
   cases cs with
   | nil=>exact absurd k1 hne
   | cons c _=>
     obtain ⟨l,n,rfl,k2⟩:=fM k1 hne
     rw [← k2] at h
     exact Vj h
noncomputable def akD (T:Nat→TE) (ng k:Nat) (fe:FE) (tbl:List (Nat×List Fact)) (FF:Nat→Option FC):Nat→Option FC:=fun f=>match Nat.beq f k with
 | true=>some (Nr T ng { fe with pre:=fun args t nx e=>lM ng (U0 tbl args) args t nx e })
 | false=>FF f
section
variable {P:Program} {T:Nat→TE} {w0:World} {ng:Nat}
theorem abW {k:Nat} {fe:FE} {tbl:List (Nat×List Fact)} {FF:Nat→Option FC} (h:dK P T w0 ng FF) (hf:∀ x∈tbl,∀ F∈x.2,aZ P T w0 ng k F) (hb:aA P T w0 ng k fe):dK P T w0 ng (akD T ng k fe tbl FF):=fun f fc hfc=>by
 have hfc:(match Nat.beq f k with | true=>some (Nr T ng { fe with pre:=fun args t nx e=>lM ng (U0 tbl args) args t nx e }) | false=>FF f)=some fc:=hfc
 split at hfc
 ·rename_i hk
  cases hfc
  rw [beq_iff.1 hk]
  refine ⟨_,rfl,fun args t nx e v t' nx' he=>?_⟩
  exact zZ (ng:=ng) (Fs:=U0 tbl args) (fun F hF=>by obtain ⟨x,hx,hF⟩:=WB hF;exact hf x hx F hF) hb args t nx e v t' nx' he
 ·exact h f fc hfc
theorem Qj (hT:TOK P T) {FF:Nat→Option FC} (hF:dK P T w0 ng FF) {f:Nat} {fe:FE} (hb:aA P T w0 ng f fe) {N n:Nat} {tbl:List (Nat×List Fact)} (h:tbl.all (fun x=>x.2.all (dh T FF ng N n f))=true):∀ x∈tbl,∀ F∈x.2,aZ P T w0 ng f F:=
 fun x hx F hm=>sN hT hF hb (List.all_eq_true.1 (List.all_eq_true.1 h x hx) F hm)
theorem abO {f:Nat} {a b:List (Nat×List Fact)} (h:∀ x∈a,∀ F∈x.2,aZ P T w0 ng f F) (k:∀ x∈b,∀ F∈x.2,aZ P T w0 ng f F):∀ x∈a++b,∀ F∈x.2,aZ P T w0 ng f F:=fun x hx=>
 (List.mem_append.1 hx).elim (h x) (k x)
theorem ig {f:Nat} {a b:List Fact} (h:∀ F∈a,aZ P T w0 ng f F) (k:∀ F∈b,aZ P T w0 ng f F):∀ F∈a++b,aZ P T w0 ng f F:=fun F hF=>
 (List.mem_append.1 hF).elim (h F) (k F)
theorem aQ (hT:TOK P T) {FF:Nat→Option FC} (hF:dK P T w0 ng FF) {f:Nat} {fe:FE} (hb:aA P T w0 ng f fe) {N n:Nat} {Fs:List Fact} (h:Fs.all (dh T FF ng N n f)=true):∀ F∈Fs,aZ P T w0 ng f F:=
 fun F hm=>sN hT hF hb (List.all_eq_true.1 h F hm)
end
end Go.Sim
