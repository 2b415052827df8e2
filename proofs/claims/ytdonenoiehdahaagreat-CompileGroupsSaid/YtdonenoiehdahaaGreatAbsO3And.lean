/- Maps of the call's own: keys found, entries put and taken away. -/
import Derived.Test.YtdonenoiehdahaaGreatAbsLAnd
import Derived.MapKept
import Derived.WideKeyRuns
set_option linter.all false
namespace Go.Abs
open Go Go.RowKit
def aY (te:TE) (k:D):Bool:=match eX te.ks k.cells with
 | true=>(match k.one with | true=>!te.k.isAgg | false=>te.k.isAgg)
 | false=>false
def pJ:List (D×D)→D→Nat→Option (Nat×D)
 | [],_,_=>none
 | e::es,k,i=>match aI k.cells e.1.cells with | true=>some (i,e.2) | false=>pJ es k (i+1)
def look:List (D×D)→D→Option D
 | [],_=>none
 | e::es,k=>match aI k.cells e.1.cells with | true=>some e.2 | false=>look es k
def vK:List (D×D)→D→D→List (D×D)
 | [],k,v=>[(k,v)]
 | e::es,k,v=>match aI k.cells e.1.cells with | true=>(k,v)::es | false=>e::vK es k v
def Ik:List (D×D)→D→List (D×D)
 | [],_=>[]
 | e::es,k=>match aI k.cells e.1.cells with | true=>es | false=>e::Ik es k
theorem xA:∀ (es:List (D×D)) (k:D) (i:Nat),look es k=(pJ es k i).map (·.2)
 | [],_,_=>rfl
 | e::es,k,i=>by
   unfold look pJ;split
   ·rfl
   ·exact xA es k (i+1)
section
variable {P:Program} {T:Nat→TE} {ok:Nat→Prop} {w:World}
structure YO (P:Program) (te:TE) (kt:Nat):Prop where
 eq:YP P 10000 kt te.ks
 agg:mG P kt=te.k.isAgg
 plain:te.k.isAgg=false→∃ d,P.underlying kt=some d∧((d = .bool∧te.ks=[.b])∨(∃ k,d = .int k∧te.ks=[.i k])∨(d = .string∧te.ks=[.s]))
 wide:te.k.isAgg=true→(match P.underlying kt with | some (.array _ _) | some (.struct _)=>true | _=>false)=true
theorem TOK.Zr (hT:TOK P T) {kt:Nat} (hk:(T kt).known=true) (hn:(!(T kt).ks.isEmpty)=true):YO P (T kt) kt:=by
 have hne:(T kt).ks≠[]:=by intro e;rw [e] at hn;cases hn
 obtain ⟨d,i,hf⟩:=hT.facts (TE.aH hk);obtain ⟨_,hs⟩:=hT.keys (TE.aH hk) hne;have hkk:=hf.k;have hag:mG P kt=(T kt).k.isAgg:=by
  unfold mG;rw [hf.und,hkk];have:=TE.aH hk;rw [hkk] at this;cases d
  case struct fs=>
   simp only [kOf] at this ⊢;split at this
   ·rename_i h;rw [if_pos h];rfl
   ·exact absurd rfl this
  case array n e=>
   simp only [kOf] at this ⊢;split at this
   ·rename_i h;rw [if_pos h];rfl
   ·exact absurd rfl this
  all_goals first | rfl | exact absurd rfl this
 refine ⟨AV 9994 6 kt _ hs,hag,fun ha=>⟨d,hf.und,?_⟩,fun ha=>?_⟩
 ·rw [← hag] at ha;unfold mG at ha;rw [hf.und] at ha;simp only [wV,hf.und] at hs;cases d<;>simp at hs ha
  ·exact .inl ⟨rfl,hs.symm⟩
  ·exact .inr (.inl ⟨_,rfl,hs.symm⟩)
  ·exact .inr (.inr ⟨rfl,hs.symm⟩)
 ·rw [← hag] at ha;unfold mG at ha;split at ha<;>simp_all
theorem dW {te:TE} {k:D} (h:aY te k=true):eX te.ks k.cells=true∧k.one=!te.k.isAgg:=by
 unfold aY at h;split at h
 ·rename_i h1;refine ⟨h1,?_⟩;split at h
  ·rename_i h2;rw [h2,h]
  ·rename_i h2;rw [h2,h];rfl
 ·cases h
theorem fH {te:TE} {kt:Nat} (hK:YO P te kt) {vk:Value} {k:D} (hk:RdD ok w vk k) (hfit:aY te k=true):∀ (ents:List MapEntry) (es:List (D×D)) (i:Nat),ents.length=es.length →
  (∀ (j:Nat) m e,ents[j]?=some m→es[j]?=some e→RdD ok w m.key e.1)→(∀ e∈es,aY te e.1=true) →
  ((Instr.findAsking kt vk ents i).run P w = .ok none w∧pJ es k i=none∧(∀ v,vK es k v=es++[(k,v)])∧Ik es k=es) ∨
  ∃ j m e,(Instr.findAsking kt vk ents i).run P w = .ok (some (i+j,m.val)) w∧ents[j]?=some m∧es[j]?=some e∧pJ es k i=some (i+j,e.2)∧aI k.cells e.1.cells=true∧(∀ v,vK es k v=es.set j (k,v))∧Ik es k=es.eraseIdx j
 | [],[],i,_,_,_ => .inl ⟨by simp [Instr.findAsking],rfl,fun _=>rfl,rfl⟩
 | [],_::_,_,h,_,_=>by simp at h
 | _::_,[],_,h,_,_=>by simp at h
 | m::ents,e::es,i,hl,hr,hf=>by
   obtain ⟨f1,f2⟩:=dW hfit;obtain ⟨g1,g2⟩:=dW (hf e (by simp));have he:=(hK.eq ok w vk m.key k e.1 hk (hr 0 m e rfl rfl) (by rw [Shape,hK.agg];exact f2) (by rw [Shape,hK.agg];exact g2) f1 g1).1;have he':(Op.equal kt vk m.key).run P w = .ok (aI k.cells e.1.cells) w:=he;cases hb:aI k.cells e.1.cells with
   | true=>
     rw [hb] at he';exact .inr ⟨0,m,e,by simp [Instr.findAsking,he'],rfl,rfl,by simp [pJ,hb],hb,fun v=>by simp [vK,hb],by simp [Ik,hb]⟩
   | false=>
     rw [hb] at he';rcases fH hK hk hfit ents es (i+1) (by simpa using hl) (fun j m e hm he=>hr (j+1) m e (by simpa using hm) (by simpa using he)) (fun e he=>hf e (by simp [he])) with ⟨q1,q2,q3,q4⟩ | ⟨j,m',e',q1,q2,q3,q4,q5,q6,q7⟩
     ·exact .inl ⟨by simp [Instr.findAsking,he',q1],by simp [pJ,hb,q2],fun v=>by simp [vK,hb,q3],by simp [Ik,hb,q4]⟩
     ·exact .inr ⟨j+1,m',e',by simp [Instr.findAsking,he',q1];omega,by simpa using q2,by simpa using q3,by simp [pJ,hb,q4];omega,q5,fun v=>by simp [vK,hb,q6],by simp [Ik,hb,q7]⟩
theorem tq {te:TE} {kt:Nat} (hK:YO P te kt) {td:TypeDesc} (hu:P.underlying kt=some td) (ha:te.k.isAgg=false) {vk:Value} {k:D} (hk:RdD ok w vk k) (hfit:aY te k=true):∀ (ents:List MapEntry) (es:List (D×D)) (i:Nat),ents.length=es.length →
  (∀ (j:Nat) m e,ents[j]?=some m→es[j]?=some e→RdD ok w m.key e.1)→(∀ e∈es,aY te e.1=true) →
  ∃ r,Instr.findNow td vk ents i=some r∧(Instr.findAsking kt vk ents i).run P w = .ok r w
 | [],[],i,_,_,_=>⟨none,rfl,by simp [Instr.findAsking]⟩
 | [],_::_,_,h,_,_=>by simp at h
 | _::_,[],_,h,_,_=>by simp at h
 | m::ents,e::es,i,hl,hr,hf=>by
   obtain ⟨f1,f2⟩:=dW hfit;obtain ⟨g1,g2⟩:=dW (hf e (by simp));have hm:=hr 0 m e rfl rfl;have he':(Op.equal kt vk m.key).run P w = .ok (aI k.cells e.1.cells) w:=(hK.eq ok w vk m.key k e.1 hk hm (by rw [Shape,hK.agg];exact f2) (by rw [Shape,hK.agg];exact g2) f1 g1).1;have hs:Instr.sameNow td vk m.key=some (aI k.cells e.1.cells):=by
    obtain ⟨d,hd,hcase⟩:=hK.plain ha;rw [hu] at hd;simp only [Option.some.injEq] at hd;subst hd;rw [ha] at f2 g2;generalize e.1=ek at hm g1 g2;rcases hcase with ⟨rfl,hks⟩ | ⟨kd,rfl,hks⟩ | ⟨rfl,hks⟩<;>rw [hks] at f1 g1
    ·cases k<;>simp [D.one,D.cells,eX,iI] at f1 f2;cases ek<;>simp [D.one,D.cells,eX,iI] at g1 g2;cases hk;generalize m.key=mk at hm;cases hm;simp [Instr.sameNow,D.cells,aI,eq1]
    ·cases k<;>simp [D.one,D.cells,eX] at f1 f2<;>try (simp [iI] at f1;done)
     cases ek<;>simp [D.one,D.cells,eX] at g1 g2<;>try (simp [iI] at g1;done)
     rename_i k1 n1 k2 n2;have e1:kd=k1:=pI (n:=n1) (by split at f1;assumption;cases f1);have e2:kd=k2:=pI (n:=n2) (by split at g1;assumption;cases g1);subst e1;subst e2;cases hk;generalize m.key=mk at hm;cases hm;simp [Instr.sameNow,D.cells,aI,eq1]
    ·cases k<;>simp [D.one,D.cells,eX,iI] at f1 f2;cases ek<;>simp [D.one,D.cells,eX,iI] at g1 g2;rename_i s1 s2;cases hk;generalize m.key=mk at hm;cases hm;have ea:(⟨s1.toArray⟩:ByteArray).toList=s1:=(by rw [ByteArray.toList_eq]);have eb:(⟨s2.toArray⟩:ByteArray).toList=s2:=(by rw [ByteArray.toList_eq]);simp [Instr.sameNow,D.cells,aI,eq1,beq_toListBytes,ea,eb]
   cases hb:aI k.cells e.1.cells with
   | true=>
     rw [hb] at he' hs;exact ⟨some (i,m.val),by simp [Instr.findNow,hs],by simp [Instr.findAsking,he']⟩
   | false=>
     rw [hb] at he' hs;obtain ⟨r,q1,q2⟩:=tq hK hu ha hk hfit ents es (i+1) (by simpa using hl) (fun j m e hm he=>hr (j+1) m e (by simpa using hm) (by simpa using he)) (fun e he=>hf e (by simp [he]));exact ⟨r,by simp [Instr.findNow,hs,q1],by simp [Instr.findAsking,he',q2]⟩
theorem iT {te:TE} {kt:Nat} (hK:YO P te kt) {vk:Value} {k:D} (hk:RdD ok w vk k) (hfit:aY te k=true) (ents:List MapEntry) (es:List (D×D)) (hl:ents.length=es.length)
  (hr:∀ (j:Nat) m e,ents[j]?=some m→es[j]?=some e→RdD ok w m.key e.1) (hf:∀ e∈es,aY te e.1=true) :
  (Instr.findKey kt vk ents).run P w=(Instr.findAsking kt vk ents).run P w:=by
 cases ha:te.k.isAgg with
 | true=>exact run_findKey_eq w (hK.wide ha) vk ents
 | false=>
   obtain ⟨d,hd,_⟩:=hK.plain ha;obtain ⟨r,q1,q2⟩:=tq hK hd ha hk hfit ents es 0 hl hr hf;rw [Go.MapKept.run_findKey hd q1,q2]
theorem jG {te:TE} {kt:Nat} (hK:YO P te kt) {vk:Value} {k:D} (hk:RdD ok w vk k) (hfit:aY te k=true) (em:Bool):(Instr.checkKey em 10000 kt vk).run P w = .ok () w:=by
 obtain ⟨f1,f2⟩:=dW hfit;exact (hK.eq ok w vk vk k k hk hk (by rw [Shape,hK.agg];exact f2) (by rw [Shape,hK.agg];exact f2) f1 f1).2 em
theorem BR:∀ {xs ys:List D},xs.length=ys.length→aI xs ys=true→∀ (i:Nat) x y,xs[i]?=some x→ys[i]?=some y→eq1 x y=true
 | [],_,_,_,i,x,y,h,_=>by simp at h
 | _::_,[],h,_,_,_,_,_,_=>by simp at h
 | x::xs,y::ys,hl,h,i,a,b,ha,hb=>by
   rw [kW x y xs ys (by simpa using hl)] at h;simp only [Bool.and_eq_true] at h;cases i with
   | zero=>simp at ha hb;subst ha;subst hb;exact h.1
   | succ i=>exact BR (by simpa using hl) h.2 i a b (by simpa using ha) (by simpa using hb)
theorem sZ:∀ {ks:List SK} {cs:List D},eX ks cs=true→∀ (i:Nat) k c,ks[i]?=some k→cs[i]?=some c→iI k c=true
 | [],_,_,i,k,c,h,_=>by simp at h
 | _::_,[],h,_,_,_,_,_=>by simp [eX] at h
 | k::ks,c::cs,h,i,k',c',hk,hc=>by
   unfold eX at h;split at h
   ·rename_i h1;cases i with
    | zero=>simp at hk hc;subst hk;subst hc;exact h1
    | succ i=>exact sZ h i k' c' (by simpa using hk) (by simpa using hc)
   ·cases h
theorem yw {n:Nat} {k:SK} {x y:D} {vx vy:Value} (hx:RdD ok w vx x) (hy:RdD ok w vy y) (fx:iI k x=true) (fy:iI k y=true) (h:eq1 x y=true):Instr.sameBits n vy vx=true:=by
 cases k
 ·cases x<;>simp [iI] at fx;cases y<;>simp [iI] at fy;cases hx;cases hy;simp [eq1] at h;simp [Instr.sameBits,h]
 ·cases x<;>try (simp [iI] at fx;done)
  cases y<;>try (simp [iI] at fy;done)
  rename_i kd k1 n1 k2 n2;have e1:kd=k1:=pI (n:=n1) fx;have e2:kd=k2:=pI (n:=n2) fy;subst e1;subst e2;cases hx;cases hy;simp [eq1] at h;simp [Instr.sameBits,h]
 ·cases x<;>simp [iI] at fx;cases y<;>simp [iI] at fy;cases hx;cases hy;simp [eq1] at h;subst h;have e:∀ (a b:ByteArray),Instr.sameBits n (.string a) (.string b)=(a==b):=fun a b=>by cases n<;>rfl
  rw [e,beq_toListBytes];simp
theorem run_keyThatStays {te:TE} {vk vo:Value} {k ko:D} (hk:RdD ok w vk k) (ho:RdD ok w vo ko) (fk:aY te k=true) (fo:aY te ko=true) (h:aI k.cells ko.cells=true):(Instr.keyThatStays vo vk).run P w = .ok vk w:=by
 obtain ⟨f1,f2⟩:=dW fk;obtain ⟨g1,g2⟩:=dW fo;have hlen:k.cells.length=ko.cells.length:=by rw [bM f1,bM g1]
 suffices hs:Instr.sameBits 10000 vo vk=true by simp [Instr.keyThatStays,hs]
 obtain ⟨c1,c2⟩:=hk.cellsOf;obtain ⟨d1,d2⟩:=ho.cellsOf;cases ha:te.k.isAgg with
 | true=>
   rw [ha] at f2 g2;cases k<;>simp [D.one] at f2;cases ko<;>simp [D.one] at g2;rename_i cs ds;cases hk with
   | agg vs _ p1 p2 p3=>cases ho with
     | agg us _ q1 q2 q3=>
       simp only [D.cells] at *;show (us.size==vs.size&&(us.toList.zip vs.toList).all fun (x,y)=>Instr.sameBits 9999 x y)=true;rw [Bool.and_eq_true];refine ⟨by simp [p1,q1,hlen],List.all_eq_true.2 fun ⟨a,b⟩ hab=>?_⟩;obtain ⟨i,hi⟩:=List.getElem?_of_mem hab;rw [List.getElem?_zip_eq_some] at hi;have hia:us[i]?=some a:=(by simpa using hi.1);have hib:vs[i]?=some b:=(by simpa using hi.2);have hlt:i<cs.length:=(by rw [← p1];exact (Array.getElem?_eq_some_iff.1 hib).1);have hlt':i<ds.length:=(by omega);have hks:i<te.ks.length:=(by rw [← bM f1];exact hlt);exact yw (p2 i b cs[i] hib (by simp)) (q2 i a ds[i] hia (by simp)) (sZ f1 i te.ks[i] cs[i] (by simp) (by simp)) (sZ g1 i te.ks[i] ds[i] (by simp) (by simp)) (BR hlen h i _ _ (by simp) (by simp))
 | false=>
   rw [ha] at f2 g2;have ek:k.cells=[k]:=by cases k<;>first | rfl | simp [D.one] at f2
   have eo:ko.cells=[ko]:=by cases ko<;>first | rfl | simp [D.one] at g2
   rw [ek] at f1 h;rw [eo] at g1 h;obtain ⟨k0,hks⟩:∃ k0,te.ks=[k0]:=by
    have:=bM f1;cases hq:te.ks with
    | nil=>rw [hq] at this;simp at this
    | cons a r=>cases r with
      | nil=>exact ⟨a,rfl⟩
      | cons b1 r=>rw [hq] at this;simp at this
   rw [hks] at f1 g1;exact yw hk ho (sZ f1 0 k0 k rfl rfl) (sZ g1 0 k0 ko rfl rfl) (by simpa [aI] using h)
end
def bf (w:World) (r:Nat) (o:Obj):World:={ w with heap:=w.heap.setIfInBounds r o }
theorem eH (w:World) (r b:Nat) (o:Obj) (h:b≠r):(bf w r o).heap[b]?=w.heap[b]?:=by
 simp [bf,Ne.symm h]
theorem vY (w:World) (r:Nat) (o:Obj) (h:r<w.heap.size):(bf w r o).heap[r]?=some o:=by
 simp [bf,h]
theorem jI (w:World) (r:Nat) (o:Obj):(bf w r o).heap.size=w.heap.size:=by simp [bf]
theorem Born.push {ents:Array MapEntry} {clock:Nat} (h:Born ents clock) (k v:Value):Born (ents.push { key:=k,val:=v,born:=clock }) (clock+1):=by
 refine ⟨fun m hm=>?_,?_⟩
 ·rw [Array.toList_push,List.mem_append,List.mem_singleton] at hm;rcases hm with hm | rfl
  ·exact Nat.lt_succ_of_lt (h.1 m hm)
  ·exact Nat.lt_succ_self _
 ·rw [Array.toList_push,List.map_append,List.nodup_append];refine ⟨h.2,by simp,fun a ha b hb=>?_⟩;obtain ⟨m,hm,rfl⟩:=List.mem_map.1 ha;have:=h.1 m hm;simp at hb;omega
theorem Born.modify {ents:Array MapEntry} {clock:Nat} (h:Born ents clock) (j:Nat) (k v:Value):Born (ents.modify j fun e=>{ e with key:=k,val:=v }) clock:=by
 have key:(ents.modify j fun e=>{ e with key:=k,val:=v }).toList.map (·.born)=ents.toList.map (·.born):=by
  apply List.ext_getElem?;intro i;simp only [List.getElem?_map,Array.getElem?_toList,Array.getElem?_modify];split
  ·cases ents[i]?<;>rfl
  ·rfl
 refine ⟨fun m hm=>?_,key ▸ h.2⟩;have hb:m.born∈ents.toList.map (·.born):=by rw [← key];exact List.mem_map.2 ⟨m,hm,rfl⟩
 obtain ⟨m',hm',e⟩:=List.mem_map.1 hb;rw [← e];exact h.1 m' hm'
theorem Born.erase {ents ents':Array MapEntry} {clock j:Nat} (h:Born ents clock) (hd:ents'.toList=ents.toList.eraseIdx j):Born ents' clock:=by
 unfold Born;rw [hd];exact ⟨fun m hm=>h.1 m (List.mem_of_mem_eraseIdx hm),(List.nodup_iff_pairwise_ne.2 ((List.nodup_iff_pairwise_ne.1 h.2).sublist ((List.eraseIdx_sublist _ _).map _)))⟩
section
variable {C:Ctx} {β:Nat→Value} {ok:Nat→Prop} {s:S} {a:Act} {w:World}
theorem Et {wr:Nat→Nat→Prop} {w0:World} (h:Frame wr w0 w) {r:Nat} {ents:Array MapEntry} {clock:Nat} (hb:w.heap[r]?=some (.map ents clock)) (o:Obj) (hw:r<w0.heap.size→∃ o,wr r o):Frame wr w0 (bf w r o):=by
 refine ⟨h.os,h.tape,h.output,by rw [jI];exact h.size,fun b' hb' hn=>?_,fun b' c T' fz hc=>?_⟩
 ·by_cases e:b'=r
  ·subst e;obtain ⟨o',ho⟩:=hw hb';exact absurd ho (hn o')
  ·rw [eH w r b' o e];exact h.blk b' hb' hn
 ·obtain ⟨c',h1,h2,h3⟩:=h.cel b' c T' fz hc;by_cases e:b'=r
  ·subst e;rw [hb] at h1;cases h1
  ·exact ⟨c',by rw [eH w r b' o e];exact h1,h2,h3⟩
theorem RelB.Nw (h:RelB C β ok s a w) {id b:Nat} {es:List (D×D)} (hr:s.hp (id,0)=some (.map es)) (hb:aF (β id)=some b) {k:Key} {r:Res} (hk:s.hp k=some r) (hne:k≠(id,0)):¬ Blk β w k r b:=by
 intro hb';have hid:=h.inj k (id,0) r _ b hk hr hb' (.inl hb);obtain ⟨k1,k2⟩:=k;simp only at hid;subst hid;obtain ⟨_,ho⟩:=h.heap _ _ hk;obtain ⟨_,_,r',ents,clock,f1,_⟩:=h.heap _ _ hr;cases r with
 | cell x=>obtain ⟨b2,c2,T2,v2,g1,_⟩:=ho;simp only at f1 g1;rw [f1] at g1;cases g1
 | arr sz' ys=>exact hne (by have:=ho.1;simp only at this;rw [this])
 | map es=>exact hne (by have:=ho.1;simp only at this;rw [this])
 | rows sz rs out=>exact hne (by have:=ho.1;simp only at this;rw [this])
theorem RelB.aal (h:RelB C β ok s a w) {id b:Nat} {es:List (D×D)} (hr:s.hp (id,0)=some (.map es)) (hb:aF (β id)=some b) (o:Obj) {k:Key} {r:Res} (hk:s.hp k=some r) {b':Nat} (hb':Blk β (bf w b o) k r b'):Blk β w k r b':=by
 by_cases hne:k=(id,0)
 ·subst hne;rw [hr] at hk;cases hk;exact .inl hb'.map
 ·exact Blk.mono rfl (fun c hc'=>eH w b c o (fun e=>h.Nw hr hb hk hne (e ▸ hc'))) hb'
theorem RelB.ab5 (h:RelB C β ok s a w) {dst:Option Tmp} (hd:∀ d,dst=some d→d<C.nt) {id:Nat} (hid:¬ s.used id) :
  ∃ β',RelB C β' ok (s.apply dst (.map id) [((id,0),some (.map []))] [id]) (a.put dst (.map (some w.heap.size))) (w.alloc (.map #[] 0)):=by
 have hsize:=h.size_le;have hβ:=lG (β:=β) (v := .map (some w.heap.size)) hid;have hk:=fZ h.okb (.map #[] 0)
 refine ⟨ghost β id (.map (some w.heap.size)),h.step hd hβ (fun _ h=>h) hk (.map id w.heap.size (.inr (by simp)) (aP _ _ _)) (fun k r hr _ b hb=>?_) (fun k r hm'=>?_) (fun k k' r r' b hm' hr hb hb'=>?_)
  (fun b hb=>by have:=h.okb b hb;simp;omega) (fun b hb => .inl hb) (h.frame.alloc _)⟩
 ·have:=h.sep k r b hr hb;exact ⟨⟨this.1,by simp;omega⟩,.inl (heap_alloc_old w _ b this.2.1)⟩
 ·simp at hm';obtain ⟨rfl,rfl⟩:=hm';refine ⟨.inr (by simp),⟨rfl,w.heap.size,#[],0,aP _ _ _,heap_alloc_new w _,rfl,fun i m e hm=>by simp at hm,by simp [Born]⟩,fun b hb=>?_⟩;have hb:=hb.map;rw [aP] at hb;simp [aF] at hb;subst hb;exact ⟨fun hc=>by have:=h.okb _ hc;omega,by simp,fun hc=>by omega⟩
 ·simp at hm';obtain ⟨rfl,rfl⟩:=hm';have hb:=hb.map;rw [aP] at hb;simp [aF] at hb;subst hb;rcases dN s.hp [((id,0),some (Res.map []))] k' with ⟨e,hno⟩ | ⟨r0,hm'',e⟩
  ·have hr':s.hp k'=some r':=e.symm.trans hr;have:=(h.sep k' r' _ hr' (h.uY hβ _ hr' hb')).2.1;omega
  ·simp at hm'';rw [hm''.1]
theorem RelB.DV (h:RelB C β ok s a w) {dst:Option Tmp} (hd:∀ d,dst=some d→d<C.nt) {id:Nat} {es es':List (D×D)} (hr:s.hp (id,0)=some (.map es)) {r:Nat} {ents:Array MapEntry} {clock:Nat}
  (e1:β id = .map (some r)) (e2:w.heap[r]?=some (.map ents clock)) {ents':Array MapEntry} {clock':Nat} (hl:ents'.size=es'.length)
  (hx:∀ (i:Nat) m e,ents'[i]?=some m→es'[i]?=some e→RdD ok w m.key e.1∧RdD ok w m.val e.2) (hbn:Born ents' clock') (vd:Value) :
  RelB C β ok (s.apply dst .any [((id,0),some (.map es'))] []) (a.put dst vd) (bf w r (.map ents' clock')):=by
 have hu0:=(h.heap _ _ hr).1;have hbl:aF (β id)=some r:=by rw [e1];rfl
 have hsep:=h.sep _ _ r hr (.inl hbl);have hk:Keeps ok w (bf w r (.map ents' clock')):=fun b hb=>eH w r b _ (fun e=>hsep.1 (e ▸ hb))
 refine h.step hd (fun _ _=>rfl) (fun _ h=>h) hk (.any _) (fun k r1 hr' hno b' hb'=>?_) (fun k r1 hm=>?_) (fun k k' r1 r' b' hm hr' hb hb'=>?_)
  (fun b hb=>by rw [jI];exact h.okb b hb) (fun b hb => .inl hb) (Et h.frame e2 _ (fun hb0=>⟨0,hsep.2.2 hb0 0⟩))
 ·have hs:=h.sep k r1 b' hr' hb';refine ⟨⟨hs.1,by rw [jI];exact hs.2.1⟩,.inl (eH w r b' _ (fun e=>?_))⟩;subst e;exact h.Nw hr hbl hr' (fun e=>hno (some (.map es')) (by simp [e])) hb'
 ·simp at hm;obtain ⟨rfl,rfl⟩:=hm;refine ⟨.inl hu0,⟨rfl,r,ents',clock',e1,vY w r _ hsep.2.1,hl,fun i m e hm he=>⟨(hx i m e hm he).1.mono hk (fun _ h=>h),(hx i m e hm he).2.mono hk (fun _ h=>h)⟩,hbn⟩,fun b' hb'=>?_⟩;have hb':=hb'.map;simp only [hbl,Option.some.injEq] at hb';subst hb';exact ⟨hsep.1,by rw [jI];exact hsep.2.1,hsep.2.2⟩
 ·simp at hm;obtain ⟨rfl,rfl⟩:=hm;have hb:=hb.map;simp only [hbl,Option.some.injEq] at hb;subst hb;rcases dN s.hp [((id,0),some (Res.map es'))] k' with ⟨e,hno⟩ | ⟨r0,hm',e⟩
  ·have h2:s.hp k'=some r':=e.symm.trans hr';exact (h.inj k' (id,0) r' _ r h2 hr (h.aal hr hbl _ h2 hb') (.inl hbl)).symm
  ·simp at hm';rw [hm'.1]
end
section
variable {P:Program} {T:Nat→TE}
theorem TOK.map (hT:TOK P T) {t k e:Nat} (hk:(T t).k = .map k e):P.underlying t=some (.map k e):=by
 obtain ⟨d,i,h⟩:=hT.facts (t:=t) (by rw [hk];intro e;cases e);have hd:=h.k;rw [hk] at hd;rw [jJ.2.2.2.2.2 k e hd.symm] at h;exact h.und
def Jz (n:Nat) (K:KK):Prop:=K (.map n) [((n,0),some (.map []))] [] [n]
theorem CX {o:Oper} {t:Nat} (ho:o.op = .makeMap t none) {vals:List V} {h:Key→Option Res} {n:Nat} {K:KK} (hK:Jz n K):∃ x δ rd nw,K x δ rd nw∧aG P o vals h x δ rd nw:=by
 refine ⟨_,_,_,_,hK,aG.of_run fun C β ok s a w hr g1 g2 g3 g4 g5=>?_⟩;obtain ⟨β',hrel⟩:=hr.ab5 (dst:=o.dst) g4 (g3 n (by simp));exact ⟨_,_,.inl (by simp [execOp,ho,Instr.makeMap,newObj,Sem.run]),β',ok,hrel⟩
def wL (x:D) (K:List (D×D)→Prop):Prop:=match x with | .map es=>K es | _=>False
theorem Rh {x:D} {K:List (D×D)→Prop} (h:wL x K):∃ es,x = .map es∧K es:=by cases x<;>first | exact ⟨_,rfl,h⟩ | exact h.elim
def FP (r:Option Res) (K:List (D×D)→Prop):Prop:=match r with | some (.map es)=>K es | _=>False
theorem sU {r:Option Res} {K:List (D×D)→Prop} (h:FP r K):∃ es,r=some (.map es)∧K es:=by
 unfold FP at h;split at h
 ·exact ⟨_,rfl,h⟩
 ·exact h.elim
def mapOf (m:V) (h:Key→Option Res) (K:List (D×D)→List Key→Prop):Prop:=
 match m with
 | .map id=>FP (h (id,0)) fun es=>K es [(id,0)]
 | .d x=>wL x fun es=>K es []
 | _=>False
def HasMap (ok:Nat→Prop) (w:World) (v:Value) (es:List (D×D)):Prop:=
 (v = .map none∧es=[])∨∃ r ents clock,v = .map (some r)∧w.heap[r]?=some (.map ents clock)∧ents.size=es.length ∧
  ∀ (i:Nat) (m:MapEntry) (e:D×D),ents[i]?=some m→es[i]?=some e→RdD ok w m.key e.1∧RdD ok w m.val e.2
theorem EY {m:V} {h:Key→Option Res} {K:List (D×D)→List Key→Prop} (hK:mapOf m h K):∃ es rd,K es rd ∧
  ∀ (β:Nat→Value) (u ok:Nat→Prop) (w:World) v,RdV β u ok w v m→(∀ k∈rd,∀ r,h k=some r→Own β u ok w k r)→HasMap ok w v es:=by
 unfold mapOf at hK;split at hK
 ·rename_i id;obtain ⟨es,he,hK⟩:=sU hK;refine ⟨es,_,hK,fun β u ok w v hv ho=>?_⟩;obtain ⟨_,r,ents,clock,h1,h2,h3,h4,_⟩:=ho (id,0) (by simp) _ he;cases hv with
  | map _ r' p1 p2=>
    simp only at h1;rw [p2] at h1;have e:r'=r:=(by simpa using h1);subst e;exact .inr ⟨r',ents,clock,rfl,h2,h3,h4⟩
 ·obtain ⟨es,rfl,hK⟩:=Rh hK;refine ⟨es,_,hK,fun β u ok w v hv _=>?_⟩;have:=hv.dX;cases this with
  | U0=>exact .inl ⟨rfl,rfl⟩
  | map r clock ents _ q1 q2 q3 q4 q5=>exact .inr ⟨r,ents,clock,rfl,q2,q3,fun i m e hm he=>⟨q4 i m e hm he,q5 i m e hm he⟩⟩
 ·exact hK.elim
def Gg (T:Nat→TE) (te:TE) (commaOk:Bool) (vals:List V) (h:Key→Option Res) (K:KK):Prop:=
 match te.k,vals with
 | .map kt et,[m,k]=>aS ((T kt).known&&(!(T kt).ks.isEmpty)&&(T et).known&&okC (T et).zero) (mapOf m h fun es rd=>vD k fun kd=>aS (aY (T kt) kd)
   ((∀ e∈es,aY (T kt) e.1=true)∧vD (GK (T et).zero) fun z=>match commaOk with
     | false=>K (.d ((look es kd).getD z)) [] rd []
     | true=>K (.tuple [.d ((look es kd).getD z),.d (.bool (look es kd).isSome)]) [] rd []))
 | _,_=>False
theorem MZ (hT:TOK P T) {t kt et:Nat} (hk:(T t).k = .map kt et) (h1:(T kt).known=true) (h2:(!(T kt).ks.isEmpty)=true) (h3:(T et).known=true) {ok:Nat→Prop} {w:World} {vm vk:Value} {es:List (D×D)} {k z:D}
  (hm:HasMap ok w vm es) (hkd:RdD ok w vk k) (hfit:aY (T kt) k=true) (hf:∀ e∈es,aY (T kt) e.1=true) (hz:RdD ok w (T et).zero z) (c:Bool) :
  ∃ v,(Instr.lookup t vm vk c).run P w = .ok (if c then .tuple #[v,.bool (look es k).isSome] else v) w∧RdD ok w v ((look es k).getD z):=by
 have hu:=hT.map hk;have hKT:=hT.Zr h1 h2;obtain ⟨d,i,hfe⟩:=hT.facts (TE.aH h3);have hzero:(zeroValue et).run P w = .ok (T et).zero w:=by simp [zeroValue,typeInfo,hfe.info,hfe.zero]
 have hck:∀ em,(Instr.checkKey em 10000 kt vk).run P w = .ok () w:=fun em=>jG hKT hkd hfit em
 rcases hm with ⟨rfl,rfl⟩ | ⟨r,ents,clock,rfl,e2,e3,e4⟩
 ·refine ⟨(T et).zero,?_,hz⟩;have hfk:(Instr.findKey kt vk []).run P w = .ok none w:=by
   rw [iT hKT hkd hfit [] [] rfl (fun j m e h=>by simp at h) hf];simp [Instr.findAsking]
  cases c<;>simp [Instr.lookup,run_underlying hu,hck,hfk,hzero,look]
 ·have hfa:=fH hKT hkd hfit ents.toList es 0 (by simpa using e3) (fun j m e hm he=>(e4 j m e (by simpa using hm) he).1) hf;have hfk:=iT hKT hkd hfit ents.toList es (by simpa using e3) (fun j m e hm he=>(e4 j m e (by simpa using hm) he).1) hf;rcases hfa with ⟨q1,q2,_,_⟩ | ⟨j,m,e,q1,q2,q3,q4,_,_,_⟩
  ·rw [q1] at hfk;have hl:look es k=none:=(by rw [xA es k 0,q2];rfl);refine ⟨(T et).zero,?_,by rw [hl];exact hz⟩;cases c<;>simp [Instr.lookup,run_underlying hu,hck,hfk,hzero,hl,Go.MapKept.run_getObj_map e2]
  ·rw [q1] at hfk;have hl:look es k=some e.2:=(by rw [xA es k 0,q4];rfl);refine ⟨m.val,?_,by rw [hl];exact (e4 j m e (by simpa using q2) q3).2⟩;cases c<;>simp [Instr.lookup,run_underlying hu,hck,hfk,hl,Go.MapKept.run_getObj_map e2]
theorem Gf (hT:TOK P T) {o:Oper} {t:Nat} {x y:Operand} {c:Bool} (ho:o.op = .lookup t x y c) {vals:List V} {h:Key→Option Res} {K:KK} (hK:Gg T (T t) c vals h K) :
  ∃ x δ rd nw,K x δ rd nw∧aG P o vals h x δ rd nw:=by
 unfold Gg at hK;split at hK
 ·rename_i kt et m k hk;obtain ⟨hb,hK⟩:=ak hK;simp only [Bool.and_eq_true] at hb;obtain ⟨⟨⟨b1,b2⟩,b3⟩,b4⟩:=hb;obtain ⟨es,rd,hK,hm⟩:=EY hK;obtain ⟨kd,hK,hkd⟩:=kG hK;obtain ⟨hfit,hf,hK⟩:=ak hK;obtain ⟨z,hK,hz⟩:=kG hK;have main:∀ (β:Nat→Value) (u ok:Nat→Prop) (w:World) (ρ:Operand→Value) (e:Operand→V),(∀ q∈o.op.operands.toList,RdV β u ok w (ρ q) (e q))→o.op.operands.toList.map e=[m,k] →
    (∀ k∈rd,∀ r,h k=some r→Own β u ok w k r)→∃ v,(execOp ρ o).run P w = .ok (.value (if c then .tuple #[v,.bool (look es kd).isSome] else v)) w∧RdD ok w v ((look es kd).getD z):=by
   intro β u ok w ρ e g1 g2 g3;simp only [ho,Op.operands,List.map_cons,List.map_nil,List.cons.injEq,and_true] at g1 g2;have hx:=g1 x (by simp);have hy:=g1 y (by simp);rw [g2.1] at hx;rw [g2.2] at hy;obtain ⟨v,q1,q2⟩:=MZ hT hk b1 b2 b3 (hm β u ok w _ hx g3) (hkd β u ok w _ hy) hfit hf (hz β u ok w _ (Aa β u ok w _ b4)) c;exact ⟨v,by simp [execOp,ho,q1],q2⟩
  cases c with
  | false=>
    refine ⟨_,_,_,_,hK,aG.bI fun β u ok w ρ e g1 g2 g3=>?_⟩;obtain ⟨v,q1,q2⟩:=main β u ok w ρ e g1 g2 g3;exact ⟨v,by simpa using q1,.d _ _ q2⟩
  | true=>
    refine ⟨_,_,_,_,hK,aG.bI fun β u ok w ρ e g1 g2 g3=>?_⟩;obtain ⟨v,q1,q2⟩:=main β u ok w ρ e g1 g2 g3;refine ⟨.tuple #[v,.bool (look es kd).isSome],by simpa using q1,.tuple _ _ rfl (fun i v' x' h1 h2=>?_)⟩
    match i with
    | 0=>simp at h1 h2;subst h1;subst h2;exact .d _ _ q2
    | 1=>simp at h1 h2;subst h1;subst h2;exact .d _ _ (.bool _)
    | i+2=>simp at h2
 ·exact hK.elim
def tC (T:Nat→TE) (te:TE) (vals:List V) (h:Key→Option Res) (K:KK):Prop:=
 match te.k,vals with
 | .map kt _,[.map id,k,v]=>aS ((T kt).known&&(!(T kt).ks.isEmpty)) (FP (h (id,0)) fun es=>vD k fun kd=>vD v fun vd=>aS (aY (T kt) kd)
   ((∀ e∈es,aY (T kt) e.1=true)∧K .any [((id,0),some (.map (vK es kd vd)))] [(id,0)] []))
 | _,_=>False
theorem D9 (hT:TOK P T) {t kt et:Nat} (hk:(T t).k = .map kt et) (h1:(T kt).known=true) (h2:(!(T kt).ks.isEmpty)=true) {ok:Nat→Prop} {w:World} {vk vv:Value} {es:List (D×D)} {k x:D} {r clock:Nat} {ents:Array MapEntry}
  (e2:w.heap[r]?=some (.map ents clock)) (e3:ents.size=es.length) (e4:∀ (i:Nat) (m:MapEntry) (e:D×D),ents[i]?=some m→es[i]?=some e→RdD ok w m.key e.1∧RdD ok w m.val e.2)
  (hbn:Born ents clock) (hkd:RdD ok w vk k) (hv:RdD ok w vv x) (hfit:aY (T kt) k=true) (hf:∀ e∈es,aY (T kt) e.1=true) :
  ∃ ents' clock',(Instr.mapUpdate t (.map (some r)) vk vv).run P w = .ok () (bf w r (.map ents' clock'))∧ents'.size=(vK es k x).length ∧
    (∀ (i:Nat) (m:MapEntry) (e:D×D),ents'[i]?=some m→(vK es k x)[i]?=some e→RdD ok w m.key e.1∧RdD ok w m.val e.2)∧Born ents' clock':=by
 have hu:=hT.map hk;have hKT:=hT.Zr h1 h2;have hck:∀ em,(Instr.checkKey em 10000 kt vk).run P w = .ok () w:=fun em=>jG hKT hkd hfit em
 have hfa:=fH hKT hkd hfit ents.toList es 0 (by simpa using e3) (fun j m e hm he=>(e4 j m e (by simpa using hm) he).1) hf;have hfk:=iT hKT hkd hfit ents.toList es (by simpa using e3) (fun j m e hm he=>(e4 j m e (by simpa using hm) he).1) hf;rcases hfa with ⟨q1,q2,q3,_⟩ | ⟨j,m,e,q1,q2,q3,q4,q5,q6,_⟩
 ·rw [q1] at hfk;refine ⟨ents.push { key:=vk,val:=vv,born:=clock },clock+1,?_,by rw [q3];simp [e3],fun i m e hm he=>?_,hbn.push vk vv⟩
  ·simp [Instr.mapUpdate,run_underlying hu,Go.MapKept.run_getObj_map e2,hck,hfk,Go.MapKept.run_setObj_map _ e2,bf]
  ·rw [q3] at he;rcases Nat.lt_or_ge i ents.size with hi | hi
   ·rw [Array.getElem?_push,if_neg (by omega)] at hm;rw [List.getElem?_append_left (by omega)] at he;exact e4 i m e hm he
   ·have hie:i=ents.size:=by
     have:=(Array.getElem?_eq_some_iff.1 hm).1;simp at this;omega
    subst hie;rw [e3,List.getElem?_append_right (Nat.le_refl _)] at he;simp at hm he;subst hm;subst he;exact ⟨hkd,hv⟩
 ·rw [q1] at hfk;have q2':ents[j]?=some m:=by simpa using q2
  have hj:j<ents.size:=(Array.getElem?_eq_some_iff.1 q2').1;have hks:=run_keyThatStays (P:=P) (w:=w) hkd (e4 j m e q2' q3).1 hfit (hf e (List.mem_of_getElem? q3)) q5;refine ⟨ents.modify j fun e=>{ e with key:=vk,val:=vv },clock,?_,by rw [q6];simp [e3],fun i m' e' hm he=>?_,hbn.modify j vk vv⟩
  ·simp [Instr.mapUpdate,run_underlying hu,Go.MapKept.run_getObj_map e2,hck,hfk,q2',hks,Go.MapKept.run_setObj_map _ e2,bf]
  ·rw [q6] at he;by_cases hij:j=i
   ·subst hij;rw [List.getElem?_set_self (by omega)] at he;rw [Array.getElem?_modify,if_pos rfl,q2'] at hm;simp at he hm;subst hm;subst he;exact ⟨hkd,hv⟩
   ·rw [List.getElem?_set_ne hij] at he;rw [Array.getElem?_modify,if_neg hij] at hm;exact e4 i m' e' hm he
theorem nT (hT:TOK P T) {o:Oper} {t:Nat} {x y z:Operand} (ho:o.op = .mapUpdate t x y z) {vals:List V} {h:Key→Option Res} {K:KK} (hK:tC T (T t) vals h K) :
  ∃ x δ rd nw,K x δ rd nw∧aG P o vals h x δ rd nw:=by
 unfold tC at hK;split at hK
 ·rename_i kt et id k v hk;obtain ⟨hb,hK⟩:=ak hK;simp only [Bool.and_eq_true] at hb;obtain ⟨es,he,hK⟩:=sU hK;obtain ⟨kd,hK,hkd⟩:=kG hK;obtain ⟨vd,hK,hvd⟩:=kG hK;obtain ⟨hfit,hf,hK⟩:=ak hK;refine ⟨_,_,_,_,hK,aG.of_run fun C β ok s a w hr g1 g2 g3 g4 g5=>?_⟩;simp only [ho,Op.operands,List.map_cons,List.map_nil,List.cons.injEq,and_true] at g1 g5;have hx:=hr.eval x (g5 x (by simp));have hy:=hr.eval y (g5 y (by simp));have hz:=hr.eval z (g5 z (by simp));rw [g1.1] at hx;rw [g1.2.1] at hy;rw [g1.2.2] at hz;have hs:s.hp (id,0)=some (.map es):=by rw [g2 _ (by simp),he]
  obtain ⟨_,_,r,ents,clock,e1,e2,e3,e4,e5⟩:=h_own hr hs;generalize hvx:a.eval x=vx at hx;cases hx with
  | map _ r' p1 p2=>
    simp only at e1;rw [p2] at e1;have e:r'=r:=(by simpa using e1);subst e;obtain ⟨ents',clock',f1,f2,f3,f4⟩:=D9 hT hk hb.1 hb.2 e2 e3 e4 e5 (hkd β s.used ok w _ hy) (hvd β s.used ok w _ hz) hfit hf;exact ⟨undef,bf w r' (.map ents' clock'),.inr ⟨by simp [execOp,ho,hvx,f1],rfl⟩,β,ok,hr.DV g4 hs p2 e2 f2 f3 f4 undef⟩
 ·exact hK.elim
 where h_own {C:Ctx} {β:Nat→Value} {ok:Nat→Prop} {s:S} {a:Act} {w:World} (hr:RelB C β ok s a w) {id:Nat} {es:List (D×D)} (hs:s.hp (id,0)=some (.map es)):s.used id∧Own β s.used ok w (id,0) (.map es):=hr.heap _ _ hs
def Gm (T:Nat→TE) (te:TE) (vals:List V) (h:Key→Option Res) (K:KK):Prop:=
 match te.k,vals with
 | .map kt _,[.map id,k]=>aS ((T kt).known&&(!(T kt).ks.isEmpty)) (FP (h (id,0)) fun es=>vD k fun kd=>aS (aY (T kt) kd)
   ((∀ e∈es,aY (T kt) e.1=true)∧K .any [((id,0),some (.map (Ik es kd)))] [(id,0)] []))
 | _,_=>False
theorem Gl (hT:TOK P T) {o:Oper} {t t':Nat} {x y:Operand} (ho:o.op = .call { callee := .builtin .delete,args:=#[x,y],argTypes:=#[t,t'] }) {vals:List V} {h:Key→Option Res} {K:KK} (hK:Gm T (T t) vals h K) :
  ∃ x δ rd nw,K x δ rd nw∧aG P o vals h x δ rd nw:=by
 unfold Gm at hK;split at hK
 ·rename_i kt et id k hk;obtain ⟨hb,hK⟩:=ak hK;simp only [Bool.and_eq_true] at hb;obtain ⟨es,he,hK⟩:=sU hK;obtain ⟨kd,hK,hkd⟩:=kG hK;obtain ⟨hfit,hf,hK⟩:=ak hK;refine ⟨_,_,_,_,hK,aG.of_run fun C β ok s a w hr g1 g2 g3 g4 g5=>?_⟩;simp only [ho,Op.operands,Call.operands] at g1 g5;simp at g1 g5;have hx:=hr.eval x g5.1;have hy:=hr.eval y g5.2;rw [g1.1] at hx;rw [g1.2] at hy;have hs:s.hp (id,0)=some (.map es):=by rw [g2 _ (by simp),he]
  obtain ⟨_,_,r,ents,clock,e1,e2,e3,e4,e5⟩:=nT.h_own hr hs;generalize hvx:a.eval x=vx at hx;cases hx with
  | map _ r' p1 p2=>
    simp only at e1;rw [p2] at e1;have e:r'=r:=(by simpa using e1);subst e;have hu:=hT.map hk;have hKT:=hT.Zr hb.1 hb.2;have hky:=hkd β s.used ok w _ hy;have hck:∀ em,(Instr.checkKey em 10000 kt (a.eval y)).run P w = .ok () w:=fun em=>jG hKT hky hfit em
    have hfa:=fH hKT hky hfit ents.toList es 0 (by simpa using e3) (fun j m e hm he=>(e4 j m e (by simpa using hm) he).1) hf;have hfk:=iT hKT hky hfit ents.toList es (by simpa using e3) (fun j m e hm he=>(e4 j m e (by simpa using hm) he).1) hf;rcases hfa with ⟨q1,q2,_,q4⟩ | ⟨j,m,e,q1,q2,q3,_,_,_,q7⟩
    ·rw [q1] at hfk;refine ⟨.tuple #[],bf w r' (.map ents clock),.inl ?_,β,ok,hr.DV g4 hs p2 e2 (by rw [q4];exact e3) (by rw [q4];exact e4) e5 _⟩;simp [execOp,ho,resolve,invoke,builtin,Builtin.delete_,hvx,run_underlying hu,Go.MapKept.run_getObj_map e2,hck,hfk,Go.MapKept.run_setObj_map _ e2,bf]
    ·rw [q1] at hfk;have hj:j<ents.size:=(by have:=(List.getElem?_eq_some_iff.1 q2).1;simpa using this);have hdel:(ents.eraseIdxIfInBounds j).toList=ents.toList.eraseIdx j:=(by unfold Array.eraseIdxIfInBounds;rw [dif_pos hj];exact Array.toList_eraseIdx);refine ⟨.tuple #[],bf w r' (.map (ents.eraseIdxIfInBounds j) clock),.inl ?_,β,ok,hr.DV g4 hs p2 e2 ?_ (fun i m' e' hm he'=>?_) (e5.erase hdel) _⟩
     ·simp [execOp,ho,resolve,invoke,builtin,Builtin.delete_,hvx,run_underlying hu,Go.MapKept.run_getObj_map e2,hck,hfk,Go.MapKept.run_setObj_map _ e2,bf]
     ·rw [q7,← Array.length_toList,hdel,List.length_eraseIdx,List.length_eraseIdx];simp only [Array.length_toList,e3]
     ·rw [q7] at he';have hm2:(ents.toList.eraseIdx j)[i]?=some m':=(by rw [← hdel,Array.getElem?_toList];exact hm);rw [List.getElem?_eraseIdx] at hm2 he';split at hm2
      ·rename_i h1;rw [if_pos h1] at he';exact e4 i m' e' (by simpa using hm2) he'
      ·rename_i h1;rw [if_neg h1] at he';exact e4 (i+1) m' e' (by simpa using hm2) he'
 ·exact hK.elim
def Gj (te:TE) (vals:List V) (h:Key→Option Res) (K:KK):Prop:=
 match te.k,vals with
 | .map _ _,[m]=>mapOf m h fun es rd=>K (.d (.int .i64 es.length)) [] rd []
 | _,_=>False
theorem Gi (hT:TOK P T) {o:Oper} {t:Nat} {x:Operand} (ho:o.op = .call { callee := .builtin .len,args:=#[x],argTypes:=#[t] }) {vals:List V} {h:Key→Option Res} {K:KK} (hK:Gj (T t) vals h K) :
  ∃ x δ rd nw,K x δ rd nw∧aG P o vals h x δ rd nw:=by
 unfold Gj at hK;split at hK
 ·rename_i kt et m hk;obtain ⟨es,rd,hK,hm⟩:=EY hK;refine ⟨_,_,_,_,hK,aG.bI fun β u ok w ρ e g1 g2 g3=>?_⟩;simp only [ho,Op.operands,Call.operands] at g1 g2;simp at g1 g2;rw [g2] at g1;have hu:=hT.map hk;rcases hm β u ok w _ g1 g3 with ⟨e1,rfl⟩ | ⟨r,ents,clock,e1,e2,e3,_⟩
  ·exact ⟨.int .i64 (0:Nat),by simp [execOp,ho,resolve,invoke,builtin,Builtin.len_,run_underlying hu,e1,goInt],.d _ _ (.int _ _)⟩
  ·exact ⟨.int .i64 es.length,by simp [execOp,ho,resolve,invoke,builtin,Builtin.len_,run_underlying hu,e1,Go.MapKept.run_getObj_map e2,goInt,e3],.d _ _ (.int _ _)⟩
 ·exact hK.elim
def XZ (vals:List V) (K:KK):Prop:=
 match vals with
 | [x,y]=>Cm x fun k a=>Cm y fun k' b=>dD k k' (K (.d (.int k (if b>a then b else a))) [] [] [])
 | _=>False
theorem OO {o:Oper} {x y:Operand} {ts:Array Nat} (ho:o.op = .call { callee := .builtin .max,args:=#[x,y],argTypes:=ts }) {vals:List V} {h:Key→Option Res} {K:KK} (hK:XZ vals K) :
  ∃ x δ rd nw,K x δ rd nw∧aG P o vals h x δ rd nw:=by
 unfold XZ at hK;split at hK
 ·rename_i vx vy;obtain ⟨k,a,rfl,hK1⟩:=dS hK;obtain ⟨k',b,rfl,hK2⟩:=dS hK1;obtain ⟨rfl,hK3⟩:=bn hK2;refine ⟨_,_,_,_,hK3,aG.bI fun β u ok w ρ e g1 g2 g3=>?_⟩;simp only [ho,Op.operands,Call.operands] at g1 g2;simp at g1 g2;have h1:=g1.1;have h2:=g1.2;rw [g2.1] at h1;rw [g2.2] at h2;have h1':=h1.dX;have h2':=h2.dX;generalize hvx:ρ x=vx at h1';generalize hvy:ρ y=vy at h2';cases h1';cases h2';exact ⟨.int k (if b>a then b else a),by simp [execOp,ho,resolve,invoke,builtin,Builtin.max_,Builtin.max2,hvx,hvy],.d _ _ (.int _ _)⟩
 ·exact hK.elim
end
end Go.Abs
