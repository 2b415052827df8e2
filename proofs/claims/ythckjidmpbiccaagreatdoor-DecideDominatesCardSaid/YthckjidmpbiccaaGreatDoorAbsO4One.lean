/- Maps of the call's own: made, read, written; the evaluators. -/
import Derived.Test.YthckjidmpbiccaaGreatDoorAbsLAnd
set_option linter.unusedVariables false
set_option linter.unusedSimpArgs false
set_option linter.all false
namespace Go.Abs
open Go Go.RowKit
def bH (w:World) (r:Nat) (o:Obj):World:={ w with heap:=w.heap.setIfInBounds r o }
theorem dX (w:World) (r b:Nat) (o:Obj) (h:b≠r):(bH w r o).heap[b]?=w.heap[b]?:=by
 simp [bH,Ne.symm h]
theorem rF (w:World) (r:Nat) (o:Obj) (h:r<w.heap.size):(bH w r o).heap[r]?=some o:=by
 simp [bH,h]
theorem iZ (w:World) (r:Nat) (o:Obj):(bH w r o).heap.size=w.heap.size:=by simp [bH]
section
variable {C:Ctx} {β:Nat→Value} {ok:Nat→Prop} {s:S} {a:Act} {w:World}
theorem zX {wr:Nat→Nat→Prop} {w0:World} (h:Frame wr w0 w) {r:Nat} {ents:Array MapEntry} {clock:Nat} (hb:w.heap[r]?=some (.map ents clock)) (o:Obj) (hw:r<w0.heap.size→∃ o,wr r o):Frame wr w0 (bH w r o):=by
 refine ⟨h.os,h.tape,h.output,by rw [iZ];exact h.size,fun b' hb' hn=>?_,fun b' c T' fz hc=>?_⟩
 ·by_cases e:b'=r
  ·subst e
   obtain ⟨o',ho⟩:=hw hb'
   exact absurd ho (hn o')
  ·rw [dX w r b' o e];exact h.blk b' hb' hn
 ·obtain ⟨c',h1,h2,h3⟩:=h.cel b' c T' fz hc
  by_cases e:b'=r
  ·subst e;rw [hb] at h1;cases h1
  ·exact ⟨c',by rw [dX w r b' o e];exact h1,h2,h3⟩
theorem RelB.Jb (h:RelB C β ok s a w) {id b:Nat} {es:List (D×D)} (hr:s.hp (id,0)=some (.map es)) (hb:aW (β id)=some b) {k:Key} {r:Res} (hk:s.hp k=some r) (hne:k≠(id,0)):¬ Blk β w k r b:=by
 intro hb'
 have hid:=h.inj k (id,0) r _ b hk hr hb' (.inl hb)
 obtain ⟨k1,k2⟩:=k
 simp only at hid
 subst hid
 obtain ⟨_,ho⟩:=h.heap _ _ hk
 obtain ⟨_,_,r',ents,clock,f1,_⟩:=h.heap _ _ hr
 cases r with
 | cell x=>obtain ⟨b2,c2,T2,v2,g1,_⟩:=ho;simp only at f1 g1;rw [f1] at g1;cases g1
 | arr sz' ys=>exact hne (by have:=ho.1;simp only at this;rw [this])
 | map es=>exact hne (by have:=ho.1;simp only at this;rw [this])
 | rows sz rs out=>exact hne (by have:=ho.1;simp only at this;rw [this])
theorem RelB.aaK (h:RelB C β ok s a w) {id b:Nat} {es:List (D×D)} (hr:s.hp (id,0)=some (.map es)) (hb:aW (β id)=some b) (o:Obj) {k:Key} {r:Res} (hk:s.hp k=some r) {b':Nat} (hb':Blk β (bH w b o) k r b'):Blk β w k r b':=by
 by_cases hne:k=(id,0)
 ·subst hne
  rw [hr] at hk
  cases hk
  exact .inl hb'.map
 ·exact Blk.mono rfl (fun c hc'=>dX w b c o (fun e=>h.Jb hr hb hk hne (e ▸ hc'))) hb'
theorem RelB.afV (h:RelB C β ok s a w) {dst:Option Tmp} (hd:∀ d,dst=some d→d<C.nt) {id:Nat} (hid:¬ s.used id) :
  ∃ β',RelB C β' ok (s.apply dst (.map id) [((id,0),some (.map []))] [id]) (a.put dst (.map (some w.heap.size))) (w.alloc (.map #[] 0)):=by
 have hsize:=h.size_le
 have hβ:=qK (β:=β) (v := .map (some w.heap.size)) hid
 have hk:=jq h.okb (.map #[] 0)
 refine ⟨ghost β id (.map (some w.heap.size)),h.step hd hβ (fun _ h=>h) hk (.map id w.heap.size (.inr (by simp)) (bW _ _ _)) (fun k r hr _ b hb=>?_) (fun k r hm'=>?_) (fun k k' r r' b hm' hr hb hb'=>?_)
  (fun b hb=>by have:=h.okb b hb;simp;omega) (fun b hb => .inl hb) (h.frame.alloc _)⟩
 ·have:=h.sep k r b hr hb
  exact ⟨⟨this.1,by simp;omega⟩,.inl (heap_alloc_old w _ b this.2.1)⟩
 ·simp at hm'
  obtain ⟨rfl,rfl⟩:=hm'
  refine ⟨.inr (by simp),⟨rfl,w.heap.size,#[],0,bW _ _ _,heap_alloc_new w _,rfl,fun i m e hm=>by simp at hm⟩,fun b hb=>?_⟩
  have hb:=hb.map
  rw [bW] at hb
  simp [aW] at hb
  subst hb
  exact ⟨fun hc=>by have:=h.okb _ hc;omega,by simp,fun hc=>by omega⟩
 ·simp at hm'
  obtain ⟨rfl,rfl⟩:=hm'
  have hb:=hb.map
  rw [bW] at hb
  simp [aW] at hb
  subst hb
  rcases eG s.hp [((id,0),some (Res.map []))] k' with ⟨e,hno⟩ | ⟨r0,hm'',e⟩
  ·have hr':s.hp k'=some r':=e.symm.trans hr
   have:=(h.sep k' r' _ hr' (h.xB hβ _ hr' hb')).2.1
   omega
  ·simp at hm''
   rw [hm''.1]
theorem RelB.Tz (h:RelB C β ok s a w) {dst:Option Tmp} (hd:∀ d,dst=some d→d<C.nt) {id:Nat} {es es':List (D×D)} (hr:s.hp (id,0)=some (.map es)) {r:Nat} {ents:Array MapEntry} {clock:Nat}
  (e1:β id = .map (some r)) (e2:w.heap[r]?=some (.map ents clock)) {ents':Array MapEntry} {clock':Nat} (hl:ents'.size=es'.length)
  (hx:∀ (i:Nat) m e,ents'[i]?=some m→es'[i]?=some e→RdD ok w m.key e.1∧RdD ok w m.val e.2) (vd:Value) :
  RelB C β ok (s.apply dst .any [((id,0),some (.map es'))] []) (a.put dst vd) (bH w r (.map ents' clock')):=by
 have hu0:=(h.heap _ _ hr).1
 have hbl:aW (β id)=some r:=by rw [e1];rfl
 have hsep:=h.sep _ _ r hr (.inl hbl)
 have hk:Keeps ok w (bH w r (.map ents' clock')):=fun b hb=>dX w r b _ (fun e=>hsep.1 (e ▸ hb))
 refine h.step hd (fun _ _=>rfl) (fun _ h=>h) hk (.any _) (fun k r1 hr' hno b' hb'=>?_) (fun k r1 hm=>?_) (fun k k' r1 r' b' hm hr' hb hb'=>?_)
  (fun b hb=>by rw [iZ];exact h.okb b hb) (fun b hb => .inl hb) (zX h.frame e2 _ (fun hb0=>⟨0,hsep.2.2 hb0 0⟩))
 ·have hs:=h.sep k r1 b' hr' hb'
  refine ⟨⟨hs.1,by rw [iZ];exact hs.2.1⟩,.inl (dX w r b' _ (fun e=>?_))⟩
  subst e
  exact h.Jb hr hbl hr' (fun e=>hno (some (.map es')) (by simp [e])) hb'
 ·simp at hm
  obtain ⟨rfl,rfl⟩:=hm
  refine ⟨.inl hu0,⟨rfl,r,ents',clock',e1,rF w r _ hsep.2.1,hl,fun i m e hm he=>⟨(hx i m e hm he).1.mono hk (fun _ h=>h),(hx i m e hm he).2.mono hk (fun _ h=>h)⟩⟩,fun b' hb'=>?_⟩
  have hb':=hb'.map
  simp only [hbl,Option.some.injEq] at hb'
  subst hb'
  exact ⟨hsep.1,by rw [iZ];exact hsep.2.1,hsep.2.2⟩
 ·simp at hm
  obtain ⟨rfl,rfl⟩:=hm
  have hb:=hb.map
  simp only [hbl,Option.some.injEq] at hb
  subst hb
  rcases eG s.hp [((id,0),some (Res.map es'))] k' with ⟨e,hno⟩ | ⟨r0,hm',e⟩
  ·have h2:s.hp k'=some r':=e.symm.trans hr'
   exact (h.inj k' (id,0) r' _ r h2 hr (h.aaK hr hbl _ h2 hb') (.inl hbl)).symm
  ·simp at hm'
   rw [hm'.1]
end
section
variable {P:Program} {T:Nat→TE}
theorem TOK.map (hT:TOK P T) {t k e:Nat} (hk:(T t).k = .map k e):P.underlying t=some (.map k e):=by
 obtain ⟨d,i,h⟩:=hT.facts (t:=t) (by rw [hk];intro e;cases e)
 have hd:=h.k
 rw [hk] at hd
 rw [jE.2.2.2.2.2 k e hd.symm] at h
 exact h.und
def EN (n:Nat) (K:KK):Prop:=K (.map n) [((n,0),some (.map []))] [] [n]
theorem yU {o:Oper} {t:Nat} (ho:o.op = .makeMap t none) {vals:List V} {h:Key→Option Res} {n:Nat} {K:KK} (hK:EN n K):∃ x δ rd nw,K x δ rd nw∧aV P o vals h x δ rd nw:=by
 refine ⟨_,_,_,_,hK,aV.of_run fun C β ok s a w hr g1 g2 g3 g4 g5=>?_⟩
 obtain ⟨β',hrel⟩:=hr.afV (dst:=o.dst) g4 (g3 n (by simp))
 exact ⟨_,_,.inl (by simp [execOp,ho,Instr.makeMap,newObj,Sem.run]),β',ok,hrel⟩
def pW (x:D) (K:List (D×D)→Prop):Prop:=match x with | .map es=>K es | _=>False
theorem Nq {x:D} {K:List (D×D)→Prop} (h:pW x K):∃ es,x = .map es∧K es:=by cases x<;>first | exact ⟨_,rfl,h⟩ | exact h.elim
def Gv (r:Option Res) (K:List (D×D)→Prop):Prop:=match r with | some (.map es)=>K es | _=>False
theorem yh {r:Option Res} {K:List (D×D)→Prop} (h:Gv r K):∃ es,r=some (.map es)∧K es:=by
 unfold Gv at h;split at h
 ·exact ⟨_,rfl,h⟩
 ·exact h.elim
def mapOf (m:V) (h:Key→Option Res) (K:List (D×D)→List Key→Prop):Prop:=
 match m with
 | .map id=>Gv (h (id,0)) fun es=>K es [(id,0)]
 | .d x=>pW x fun es=>K es []
 | _=>False
def HasMap (ok:Nat→Prop) (w:World) (v:Value) (es:List (D×D)):Prop:=
 (v = .map none∧es=[])∨∃ r ents clock,v = .map (some r)∧w.heap[r]?=some (.map ents clock)∧ents.size=es.length ∧
  ∀ (i:Nat) (m:MapEntry) (e:D×D),ents[i]?=some m→es[i]?=some e→RdD ok w m.key e.1∧RdD ok w m.val e.2
theorem LX {m:V} {h:Key→Option Res} {K:List (D×D)→List Key→Prop} (hK:mapOf m h K):∃ es rd,K es rd ∧
  ∀ (β:Nat→Value) (u ok:Nat→Prop) (w:World) v,RdV β u ok w v m→(∀ k∈rd,∀ r,h k=some r→Own β u ok w k r)→HasMap ok w v es:=by
 unfold mapOf at hK
 split at hK
 ·rename_i id
  obtain ⟨es,he,hK⟩:=yh hK
  refine ⟨es,_,hK,fun β u ok w v hv ho=>?_⟩
  obtain ⟨_,r,ents,clock,h1,h2,h3,h4⟩:=ho (id,0) (by simp) _ he
  cases hv with
  | map _ r' p1 p2=>
    simp only at h1
    rw [p2] at h1
    have e:r'=r:=by simpa using h1
    subst e
    exact .inr ⟨r',ents,clock,rfl,h2,h3,h4⟩
 ·obtain ⟨es,rfl,hK⟩:=Nq hK
  refine ⟨es,_,hK,fun β u ok w v hv _=>?_⟩
  have:=hv.gX
  cases this with
  | Rx=>exact .inl ⟨rfl,rfl⟩
  | map r clock ents _ q1 q2 q3 q4 q5=>exact .inr ⟨r,ents,clock,rfl,q2,q3,fun i m e hm he=>⟨q4 i m e hm he,q5 i m e hm he⟩⟩
 ·exact hK.elim
def BF (T:Nat→TE) (te:TE) (commaOk:Bool) (vals:List V) (h:Key→Option Res) (K:KK):Prop:=
 match te.k,vals with
 | .map kt et,[m,k]=>bC ((T kt).known&&(!(T kt).ks.isEmpty)&&(T et).known&&okC (T et).zero) (mapOf m h fun es rd=>vD k fun kd=>bC (bn (T kt) kd)
   ((∀ e∈es,bn (T kt) e.1=true)∧vD (Hr (T et).zero) fun z=>match commaOk with
     | false=>K (.d ((look es kd).getD z)) [] rd []
     | true=>K (.tuple [.d ((look es kd).getD z),.d (.bool (look es kd).isSome)]) [] rd []))
 | _,_=>False
theorem IV (hT:TOK P T) {t kt et:Nat} (hk:(T t).k = .map kt et) (h1:(T kt).known=true) (h2:(!(T kt).ks.isEmpty)=true) (h3:(T et).known=true) {ok:Nat→Prop} {w:World} {vm vk:Value} {es:List (D×D)} {k z:D}
  (hm:HasMap ok w vm es) (hkd:RdD ok w vk k) (hfit:bn (T kt) k=true) (hf:∀ e∈es,bn (T kt) e.1=true) (hz:RdD ok w (T et).zero z) (c:Bool) :
  ∃ v,(Instr.lookup t vm vk c).run P w = .ok (if c then .tuple #[v,.bool (look es k).isSome] else v) w∧RdD ok w v ((look es k).getD z):=by
 have hu:=hT.map hk
 have hKT:=hT.jY h1 h2
 obtain ⟨d,i,hfe⟩:=hT.facts (TE.aP h3)
 have hzero:(zeroValue et).run P w = .ok (T et).zero w:=by simp [zeroValue,typeInfo,hfe.info,hfe.zero]
 have hck:∀ em,(Instr.checkKey em 10000 kt vk).run P w = .ok () w:=fun em=>lC hKT hkd hfit em
 rcases hm with ⟨rfl,rfl⟩ | ⟨r,ents,clock,rfl,e2,e3,e4⟩
 ·refine ⟨(T et).zero,?_,hz⟩
  have hfk:(Instr.findKey kt vk []).run P w = .ok none w:=by
   rw [jB hKT hkd hfit [] [] rfl (fun j m e h=>by simp at h) hf];simp [Instr.findAsking]
  cases c<;>simp [Instr.lookup,run_underlying hu,hck,hfk,hzero,look]
 ·have hfa:=gY hKT hkd hfit ents.toList es 0 (by simpa using e3) (fun j m e hm he=>(e4 j m e (by simpa using hm) he).1) hf
  have hfk:=jB hKT hkd hfit ents.toList es (by simpa using e3) (fun j m e hm he=>(e4 j m e (by simpa using hm) he).1) hf
  rcases hfa with ⟨q1,q2,_,_⟩ | ⟨j,m,e,q1,q2,q3,q4,_,_,_⟩
  ·rw [q1] at hfk
   have hl:look es k=none:=by rw [sW es k 0,q2];rfl
   refine ⟨(T et).zero,?_,by rw [hl];exact hz⟩
   cases c<;>simp [Instr.lookup,run_underlying hu,hck,hfk,hzero,hl,Go.MapKept.run_getObj_map e2]
  ·rw [q1] at hfk
   have hl:look es k=some e.2:=by rw [sW es k 0,q4];rfl
   refine ⟨m.val,?_,by rw [hl];exact (e4 j m e (by simpa using q2) q3).2⟩
   cases c<;>simp [Instr.lookup,run_underlying hu,hck,hfk,hl,Go.MapKept.run_getObj_map e2]
theorem BD (hT:TOK P T) {o:Oper} {t:Nat} {x y:Operand} {c:Bool} (ho:o.op = .lookup t x y c) {vals:List V} {h:Key→Option Res} {K:KK} (hK:BF T (T t) c vals h K) :
  ∃ x δ rd nw,K x δ rd nw∧aV P o vals h x δ rd nw:=by
 unfold BF at hK
 split at hK
 ·rename_i kt et m k hk
  obtain ⟨hb,hK⟩:=aG hK
  simp only [Bool.and_eq_true] at hb
  obtain ⟨⟨⟨b1,b2⟩,b3⟩,b4⟩:=hb
  obtain ⟨es,rd,hK,hm⟩:=LX hK
  obtain ⟨kd,hK,hkd⟩:=nG hK
  obtain ⟨hfit,hf,hK⟩:=aG hK
  obtain ⟨z,hK,hz⟩:=nG hK
  have main:∀ (β:Nat→Value) (u ok:Nat→Prop) (w:World) (ρ:Operand→Value) (e:Operand→V),(∀ q∈o.op.operands.toList,RdV β u ok w (ρ q) (e q))→o.op.operands.toList.map e=[m,k] →
    (∀ k∈rd,∀ r,h k=some r→Own β u ok w k r)→∃ v,(execOp ρ o).run P w = .ok (.value (if c then .tuple #[v,.bool (look es kd).isSome] else v)) w∧RdD ok w v ((look es kd).getD z):=by
   intro β u ok w ρ e g1 g2 g3
   simp only [ho,Op.operands,List.map_cons,List.map_nil,List.cons.injEq,and_true] at g1 g2
   have hx:=g1 x (by simp)
   have hy:=g1 y (by simp)
   rw [g2.1] at hx
   rw [g2.2] at hy
   obtain ⟨v,q1,q2⟩:=IV hT hk b1 b2 b3 (hm β u ok w _ hx g3) (hkd β u ok w _ hy) hfit hf (hz β u ok w _ (DV β u ok w _ b4)) c
   exact ⟨v,by simp [execOp,ho,q1],q2⟩
  cases c with
  | false=>
    refine ⟨_,_,_,_,hK,aV.dK fun β u ok w ρ e g1 g2 g3=>?_⟩
    obtain ⟨v,q1,q2⟩:=main β u ok w ρ e g1 g2 g3
    exact ⟨v,by simpa using q1,.d _ _ q2⟩
  | true=>
    refine ⟨_,_,_,_,hK,aV.dK fun β u ok w ρ e g1 g2 g3=>?_⟩
    obtain ⟨v,q1,q2⟩:=main β u ok w ρ e g1 g2 g3
    refine ⟨.tuple #[v,.bool (look es kd).isSome],by simpa using q1,.tuple _ _ rfl (fun i v' x' h1 h2=>?_)⟩
    match i with
    | 0=>simp at h1 h2;subst h1;subst h2;exact .d _ _ q2
    | 1=>simp at h1 h2;subst h1;subst h2;exact .d _ _ (.bool _)
    | i+2=>simp at h2
 ·exact hK.elim
def pK (T:Nat→TE) (te:TE) (vals:List V) (h:Key→Option Res) (K:KK):Prop:=
 match te.k,vals with
 | .map kt _,[.map id,k,v]=>bC ((T kt).known&&(!(T kt).ks.isEmpty)) (Gv (h (id,0)) fun es=>vD k fun kd=>vD v fun vd=>bC (bn (T kt) kd)
   ((∀ e∈es,bn (T kt) e.1=true)∧K .any [((id,0),some (.map (FB es kd vd)))] [(id,0)] []))
 | _,_=>False
theorem zJ (hT:TOK P T) {t kt et:Nat} (hk:(T t).k = .map kt et) (h1:(T kt).known=true) (h2:(!(T kt).ks.isEmpty)=true) {ok:Nat→Prop} {w:World} {vk vv:Value} {es:List (D×D)} {k x:D} {r clock:Nat} {ents:Array MapEntry}
  (e2:w.heap[r]?=some (.map ents clock)) (e3:ents.size=es.length) (e4:∀ (i:Nat) (m:MapEntry) (e:D×D),ents[i]?=some m→es[i]?=some e→RdD ok w m.key e.1∧RdD ok w m.val e.2)
  (hkd:RdD ok w vk k) (hv:RdD ok w vv x) (hfit:bn (T kt) k=true) (hf:∀ e∈es,bn (T kt) e.1=true) :
  ∃ ents' clock',(Instr.mapUpdate t (.map (some r)) vk vv).run P w = .ok () (bH w r (.map ents' clock'))∧ents'.size=(FB es k x).length ∧
    ∀ (i:Nat) (m:MapEntry) (e:D×D),ents'[i]?=some m→(FB es k x)[i]?=some e→RdD ok w m.key e.1∧RdD ok w m.val e.2:=by
 have hu:=hT.map hk
 have hKT:=hT.jY h1 h2
 have hck:∀ em,(Instr.checkKey em 10000 kt vk).run P w = .ok () w:=fun em=>lC hKT hkd hfit em
 have hfa:=gY hKT hkd hfit ents.toList es 0 (by simpa using e3) (fun j m e hm he=>(e4 j m e (by simpa using hm) he).1) hf
 have hfk:=jB hKT hkd hfit ents.toList es (by simpa using e3) (fun j m e hm he=>(e4 j m e (by simpa using hm) he).1) hf
 rcases hfa with ⟨q1,q2,q3,_⟩ | ⟨j,m,e,q1,q2,q3,q4,q5,q6,_⟩
 ·rw [q1] at hfk
  refine ⟨ents.push { key:=vk,val:=vv,born:=clock },clock+1,?_,by rw [q3];simp [e3],fun i m e hm he=>?_⟩
  ·simp [Instr.mapUpdate,run_underlying hu,Go.MapKept.run_getObj_map e2,hck,hfk,Go.MapKept.run_setObj_map _ e2,bH]
  ·rw [q3] at he
   rcases Nat.lt_or_ge i ents.size with hi | hi
   ·rw [Array.getElem?_push,if_neg (by omega)] at hm
    rw [List.getElem?_append_left (by omega)] at he
    exact e4 i m e hm he
   ·have hie:i=ents.size:=by
     have:=(Array.getElem?_eq_some_iff.1 hm).1
     simp at this;omega
    subst hie
    rw [e3,List.getElem?_append_right (Nat.le_refl _)] at he
    simp at hm he
    subst hm;subst he
    exact ⟨hkd,hv⟩
 ·rw [q1] at hfk
  have q2':ents[j]?=some m:=by simpa using q2
  have hj:j<ents.size:=(Array.getElem?_eq_some_iff.1 q2').1
  have hks:=run_keyThatStays (P:=P) (w:=w) hkd (e4 j m e q2' q3).1 hfit (hf e (List.mem_of_getElem? q3)) q5
  refine ⟨ents.modify j fun e=>{ e with key:=vk,val:=vv },clock,?_,by rw [q6];simp [e3],fun i m' e' hm he=>?_⟩
  ·simp [Instr.mapUpdate,run_underlying hu,Go.MapKept.run_getObj_map e2,hck,hfk,q2',hks,Go.MapKept.run_setObj_map _ e2,bH]
  ·rw [q6] at he
   by_cases hij:j=i
   ·subst hij
    rw [List.getElem?_set_self (by omega)] at he
    rw [Array.getElem?_modify,if_pos rfl,q2'] at hm
    simp at he hm
    subst hm;subst he
    exact ⟨hkd,hv⟩
   ·rw [List.getElem?_set_ne hij] at he
    rw [Array.getElem?_modify,if_neg hij] at hm
    exact e4 i m' e' hm he
theorem vI (hT:TOK P T) {o:Oper} {t:Nat} {x y z:Operand} (ho:o.op = .mapUpdate t x y z) {vals:List V} {h:Key→Option Res} {K:KK} (hK:pK T (T t) vals h K) :
  ∃ x δ rd nw,K x δ rd nw∧aV P o vals h x δ rd nw:=by
 unfold pK at hK
 split at hK
 ·rename_i kt et id k v hk
  obtain ⟨hb,hK⟩:=aG hK
  simp only [Bool.and_eq_true] at hb
  obtain ⟨es,he,hK⟩:=yh hK
  obtain ⟨kd,hK,hkd⟩:=nG hK
  obtain ⟨vd,hK,hvd⟩:=nG hK
  obtain ⟨hfit,hf,hK⟩:=aG hK
  refine ⟨_,_,_,_,hK,aV.of_run fun C β ok s a w hr g1 g2 g3 g4 g5=>?_⟩
  simp only [ho,Op.operands,List.map_cons,List.map_nil,List.cons.injEq,and_true] at g1 g5
  have hx:=hr.eval x (g5 x (by simp))
  have hy:=hr.eval y (g5 y (by simp))
  have hz:=hr.eval z (g5 z (by simp))
  rw [g1.1] at hx
  rw [g1.2.1] at hy
  rw [g1.2.2] at hz
  have hs:s.hp (id,0)=some (.map es):=by rw [g2 _ (by simp),he]
  obtain ⟨_,_,r,ents,clock,e1,e2,e3,e4⟩:=h_own hr hs
  generalize hvx:a.eval x=vx at hx
  cases hx with
  | map _ r' p1 p2=>
    simp only at e1
    rw [p2] at e1
    have e:r'=r:=by simpa using e1
    subst e
    obtain ⟨ents',clock',f1,f2,f3⟩:=zJ hT hk hb.1 hb.2 e2 e3 e4 (hkd β s.used ok w _ hy) (hvd β s.used ok w _ hz) hfit hf
    exact ⟨undef,bH w r' (.map ents' clock'),.inr ⟨by simp [execOp,ho,hvx,f1],rfl⟩,β,ok,hr.Tz g4 hs p2 e2 f2 f3 undef⟩
 ·exact hK.elim
 where h_own {C:Ctx} {β:Nat→Value} {ok:Nat→Prop} {s:S} {a:Act} {w:World} (hr:RelB C β ok s a w) {id:Nat} {es:List (D×D)} (hs:s.hp (id,0)=some (.map es)):s.used id∧Own β s.used ok w (id,0) (.map es):=hr.heap _ _ hs
end
end Go.Abs
