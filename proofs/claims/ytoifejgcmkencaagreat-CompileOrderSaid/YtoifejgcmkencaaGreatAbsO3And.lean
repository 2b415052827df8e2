/- Maps of the call's own: keys found, entries put and taken away. -/
import Derived.Test.YtoifejgcmkencaaGreatAbsLAnd
import Derived.MapKept
import Derived.WideKeyRuns
set_option linter.unusedVariables false
set_option linter.unusedSimpArgs false
set_option linter.all false
namespace Go.Abs
open Go Go.RowKit
def aY (te:TE) (k:D):Bool:=match eP te.ks k.cells with
 | true=>(match k.one with | true=>!te.k.isAgg | false=>te.k.isAgg)
 | false=>false
def nZ:List (D×D)→D→Nat→Option (Nat×D)
 | [],_,_=>none
 | e::es,k,i=>match aO k.cells e.1.cells with | true=>some (i,e.2) | false=>nZ es k (i+1)
def look:List (D×D)→D→Option D
 | [],_=>none
 | e::es,k=>match aO k.cells e.1.cells with | true=>some e.2 | false=>look es k
def Ih:List (D×D)→D→D→List (D×D)
 | [],k,v=>[(k,v)]
 | e::es,k,v=>match aO k.cells e.1.cells with | true=>(k,v)::es | false=>e::Ih es k v
def Ry:List (D×D)→D→List (D×D)
 | [],_=>[]
 | e::es,k=>match aO k.cells e.1.cells with | true=>es | false=>e::Ry es k
theorem vO:∀ (es:List (D×D)) (k:D) (i:Nat),look es k=(nZ es k i).map (·.2)
 | [],_,_=>rfl
 | e::es,k,i=>by
   unfold look nZ
   split
   ·rfl
   ·exact vO es k (i+1)
section
variable {P:Program} {T:Nat→TE} {ok:Nat→Prop} {w:World}
structure VG (P:Program) (te:TE) (kt:Nat):Prop where
 eq:VH P 10000 kt te.ks
 agg:kX P kt=te.k.isAgg
 plain:te.k.isAgg=false→∃ d,P.underlying kt=some d∧((d = .bool∧te.ks=[.b])∨(∃ k,d = .int k∧te.ks=[.i k])∨(d = .string∧te.ks=[.s]))
 wide:te.k.isAgg=true→(match P.underlying kt with | some (.array _ _) | some (.struct _)=>true | _=>false)=true
theorem TOK.Zk (hT:TOK P T) {kt:Nat} (hk:(T kt).known=true) (hn:(!(T kt).ks.isEmpty)=true):VG P (T kt) kt:=by
 have hne:(T kt).ks≠[]:=by intro e;rw [e] at hn;cases hn
 obtain ⟨d,i,hf⟩:=hT.facts (TE.aH hk)
 obtain ⟨_,hs⟩:=hT.keys (TE.aH hk) hne
 have hkk:=hf.k
 have hag:kX P kt=(T kt).k.isAgg:=by
  unfold kX
  rw [hf.und,hkk]
  have:=TE.aH hk
  rw [hkk] at this
  cases d
  case struct fs=>
   simp only [kOf] at this ⊢
   split at this
   ·rename_i h;rw [if_pos h];rfl
   ·exact absurd rfl this
  case array n e=>
   simp only [kOf] at this ⊢
   split at this
   ·rename_i h;rw [if_pos h];rfl
   ·exact absurd rfl this
  all_goals first | rfl | exact absurd rfl this
 refine ⟨zx 9994 6 kt _ hs,hag,fun ha=>⟨d,hf.und,?_⟩,fun ha=>?_⟩
 ·rw [← hag] at ha
  unfold kX at ha
  rw [hf.und] at ha
  simp only [vg,hf.und] at hs
  cases d<;>simp at hs ha
  ·exact .inl ⟨rfl,hs.symm⟩
  ·exact .inr (.inl ⟨_,rfl,hs.symm⟩)
  ·exact .inr (.inr ⟨rfl,hs.symm⟩)
 ·rw [← hag] at ha
  unfold kX at ha
  split at ha<;>simp_all
theorem dM {te:TE} {k:D} (h:aY te k=true):eP te.ks k.cells=true∧k.one=!te.k.isAgg:=by
 unfold aY at h
 split at h
 ·rename_i h1
  refine ⟨h1,?_⟩
  split at h
  ·rename_i h2;rw [h2,h]
  ·rename_i h2;rw [h2,h];rfl
 ·cases h
theorem gy {te:TE} {kt:Nat} (hK:VG P te kt) {vk:Value} {k:D} (hk:RdD ok w vk k) (hfit:aY te k=true):∀ (ents:List MapEntry) (es:List (D×D)) (i:Nat),ents.length=es.length →
  (∀ (j:Nat) m e,ents[j]?=some m→es[j]?=some e→RdD ok w m.key e.1)→(∀ e∈es,aY te e.1=true) →
  ((Instr.findAsking kt vk ents i).run P w = .ok none w∧nZ es k i=none∧(∀ v,Ih es k v=es++[(k,v)])∧Ry es k=es) ∨
  ∃ j m e,(Instr.findAsking kt vk ents i).run P w = .ok (some (i+j,m.val)) w∧ents[j]?=some m∧es[j]?=some e∧nZ es k i=some (i+j,e.2)∧aO k.cells e.1.cells=true∧(∀ v,Ih es k v=es.set j (k,v))∧Ry es k=es.eraseIdx j
 | [],[],i,_,_,_ => .inl ⟨by simp [Instr.findAsking],rfl,fun _=>rfl,rfl⟩
 | [],_::_,_,h,_,_=>by simp at h
 | _::_,[],_,h,_,_=>by simp at h
 | m::ents,e::es,i,hl,hr,hf=>by
   obtain ⟨f1,f2⟩:=dM hfit
   obtain ⟨g1,g2⟩:=dM (hf e (by simp))
   have he:=(hK.eq ok w vk m.key k e.1 hk (hr 0 m e rfl rfl) (by rw [Shape,hK.agg];exact f2) (by rw [Shape,hK.agg];exact g2) f1 g1).1
   have he':(Op.equal kt vk m.key).run P w = .ok (aO k.cells e.1.cells) w:=he
   cases hb:aO k.cells e.1.cells with
   | true=>
     rw [hb] at he'
     exact .inr ⟨0,m,e,by simp [Instr.findAsking,he'],rfl,rfl,by simp [nZ,hb],hb,fun v=>by simp [Ih,hb],by simp [Ry,hb]⟩
   | false=>
     rw [hb] at he'
     rcases gy hK hk hfit ents es (i+1) (by simpa using hl) (fun j m e hm he=>hr (j+1) m e (by simpa using hm) (by simpa using he)) (fun e he=>hf e (by simp [he])) with ⟨q1,q2,q3,q4⟩ | ⟨j,m',e',q1,q2,q3,q4,q5,q6,q7⟩
     ·exact .inl ⟨by simp [Instr.findAsking,he',q1],by simp [nZ,hb,q2],fun v=>by simp [Ih,hb,q3],by simp [Ry,hb,q4]⟩
     ·exact .inr ⟨j+1,m',e',by simp [Instr.findAsking,he',q1];omega,by simpa using q2,by simpa using q3,by simp [nZ,hb,q4];omega,q5,fun v=>by simp [Ih,hb,q6],by simp [Ry,hb,q7]⟩
theorem qM {te:TE} {kt:Nat} (hK:VG P te kt) {td:TypeDesc} (hu:P.underlying kt=some td) (ha:te.k.isAgg=false) {vk:Value} {k:D} (hk:RdD ok w vk k) (hfit:aY te k=true):∀ (ents:List MapEntry) (es:List (D×D)) (i:Nat),ents.length=es.length →
  (∀ (j:Nat) m e,ents[j]?=some m→es[j]?=some e→RdD ok w m.key e.1)→(∀ e∈es,aY te e.1=true) →
  ∃ r,Instr.findNow td vk ents i=some r∧(Instr.findAsking kt vk ents i).run P w = .ok r w
 | [],[],i,_,_,_=>⟨none,rfl,by simp [Instr.findAsking]⟩
 | [],_::_,_,h,_,_=>by simp at h
 | _::_,[],_,h,_,_=>by simp at h
 | m::ents,e::es,i,hl,hr,hf=>by
   obtain ⟨f1,f2⟩:=dM hfit
   obtain ⟨g1,g2⟩:=dM (hf e (by simp))
   have hm:=hr 0 m e rfl rfl
   have he':(Op.equal kt vk m.key).run P w = .ok (aO k.cells e.1.cells) w:=(hK.eq ok w vk m.key k e.1 hk hm (by rw [Shape,hK.agg];exact f2) (by rw [Shape,hK.agg];exact g2) f1 g1).1
   have hs:Instr.sameNow td vk m.key=some (aO k.cells e.1.cells):=by
    obtain ⟨d,hd,hcase⟩:=hK.plain ha
    rw [hu] at hd
    simp only [Option.some.injEq] at hd
    subst hd
    rw [ha] at f2 g2
    generalize e.1=ek at hm g1 g2
    rcases hcase with ⟨rfl,hks⟩ | ⟨kd,rfl,hks⟩ | ⟨rfl,hks⟩<;>rw [hks] at f1 g1
    ·cases k<;>simp [D.one,D.cells,eP,fU] at f1 f2
     cases ek<;>simp [D.one,D.cells,eP,fU] at g1 g2
     cases hk
     generalize m.key=mk at hm
     cases hm
     simp [Instr.sameNow,D.cells,aO,eq1]
    ·cases k<;>simp [D.one,D.cells,eP] at f1 f2<;>try (simp [fU] at f1;done)
     cases ek<;>simp [D.one,D.cells,eP] at g1 g2<;>try (simp [fU] at g1;done)
     rename_i k1 n1 k2 n2
     have e1:kd=k1:=nX (n:=n1) (by split at f1;assumption;cases f1)
     have e2:kd=k2:=nX (n:=n2) (by split at g1;assumption;cases g1)
     subst e1;subst e2
     cases hk
     generalize m.key=mk at hm
     cases hm
     simp [Instr.sameNow,D.cells,aO,eq1]
    ·cases k<;>simp [D.one,D.cells,eP,fU] at f1 f2
     cases ek<;>simp [D.one,D.cells,eP,fU] at g1 g2
     rename_i s1 s2
     cases hk
     generalize m.key=mk at hm
     cases hm
     have ea:(⟨s1.toArray⟩:ByteArray).toList=s1:=by rw [ByteArray.toList_eq]
     have eb:(⟨s2.toArray⟩:ByteArray).toList=s2:=by rw [ByteArray.toList_eq]
     simp [Instr.sameNow,D.cells,aO,eq1,beq_toListBytes,ea,eb]
   cases hb:aO k.cells e.1.cells with
   | true=>
     rw [hb] at he' hs
     exact ⟨some (i,m.val),by simp [Instr.findNow,hs],by simp [Instr.findAsking,he']⟩
   | false=>
     rw [hb] at he' hs
     obtain ⟨r,q1,q2⟩:=qM hK hu ha hk hfit ents es (i+1) (by simpa using hl) (fun j m e hm he=>hr (j+1) m e (by simpa using hm) (by simpa using he)) (fun e he=>hf e (by simp [he]))
     exact ⟨r,by simp [Instr.findNow,hs,q1],by simp [Instr.findAsking,he',q2]⟩
theorem jP {te:TE} {kt:Nat} (hK:VG P te kt) {vk:Value} {k:D} (hk:RdD ok w vk k) (hfit:aY te k=true) (ents:List MapEntry) (es:List (D×D)) (hl:ents.length=es.length)
  (hr:∀ (j:Nat) m e,ents[j]?=some m→es[j]?=some e→RdD ok w m.key e.1) (hf:∀ e∈es,aY te e.1=true) :
  (Instr.findKey kt vk ents).run P w=(Instr.findAsking kt vk ents).run P w:=by
 cases ha:te.k.isAgg with
 | true=>exact run_findKey_eq w (hK.wide ha) vk ents
 | false=>
   obtain ⟨d,hd,_⟩:=hK.plain ha
   obtain ⟨r,q1,q2⟩:=qM hK hd ha hk hfit ents es 0 hl hr hf
   rw [Go.MapKept.run_findKey hd q1,q2]
theorem mF {te:TE} {kt:Nat} (hK:VG P te kt) {vk:Value} {k:D} (hk:RdD ok w vk k) (hfit:aY te k=true) (em:Bool):(Instr.checkKey em 10000 kt vk).run P w = .ok () w:=by
 obtain ⟨f1,f2⟩:=dM hfit
 exact (hK.eq ok w vk vk k k hk hk (by rw [Shape,hK.agg];exact f2) (by rw [Shape,hK.agg];exact f2) f1 f1).2 em
theorem Ai:∀ {xs ys:List D},xs.length=ys.length→aO xs ys=true→∀ (i:Nat) x y,xs[i]?=some x→ys[i]?=some y→eq1 x y=true
 | [],_,_,_,i,x,y,h,_=>by simp at h
 | _::_,[],h,_,_,_,_,_,_=>by simp at h
 | x::xs,y::ys,hl,h,i,a,b,ha,hb=>by
   rw [jT x y xs ys (by simpa using hl)] at h
   simp only [Bool.and_eq_true] at h
   cases i with
   | zero=>simp at ha hb;subst ha;subst hb;exact h.1
   | succ i=>exact Ai (by simpa using hl) h.2 i a b (by simpa using ha) (by simpa using hb)
theorem qL:∀ {ks:List SK} {cs:List D},eP ks cs=true→∀ (i:Nat) k c,ks[i]?=some k→cs[i]?=some c→fU k c=true
 | [],_,_,i,k,c,h,_=>by simp at h
 | _::_,[],h,_,_,_,_,_=>by simp [eP] at h
 | k::ks,c::cs,h,i,k',c',hk,hc=>by
   unfold eP at h
   split at h
   ·rename_i h1
    cases i with
    | zero=>simp at hk hc;subst hk;subst hc;exact h1
    | succ i=>exact qL h i k' c' (by simpa using hk) (by simpa using hc)
   ·cases h
theorem wO {n:Nat} {k:SK} {x y:D} {vx vy:Value} (hx:RdD ok w vx x) (hy:RdD ok w vy y) (fx:fU k x=true) (fy:fU k y=true) (h:eq1 x y=true):Instr.sameBits n vy vx=true:=by
 cases k
 ·cases x<;>simp [fU] at fx
  cases y<;>simp [fU] at fy
  cases hx;cases hy
  simp [eq1] at h
  simp [Instr.sameBits,h]
 ·cases x<;>try (simp [fU] at fx;done)
  cases y<;>try (simp [fU] at fy;done)
  rename_i kd k1 n1 k2 n2
  have e1:kd=k1:=nX (n:=n1) fx
  have e2:kd=k2:=nX (n:=n2) fy
  subst e1;subst e2
  cases hx;cases hy
  simp [eq1] at h
  simp [Instr.sameBits,h]
 ·cases x<;>simp [fU] at fx
  cases y<;>simp [fU] at fy
  cases hx;cases hy
  simp [eq1] at h
  subst h
  have e:∀ (a b:ByteArray),Instr.sameBits n (.string a) (.string b)=(a==b):=fun a b=>by cases n<;>rfl
  rw [e,beq_toListBytes]
  simp
theorem run_keyThatStays {te:TE} {vk vo:Value} {k ko:D} (hk:RdD ok w vk k) (ho:RdD ok w vo ko) (fk:aY te k=true) (fo:aY te ko=true) (h:aO k.cells ko.cells=true):(Instr.keyThatStays vo vk).run P w = .ok vk w:=by
 obtain ⟨f1,f2⟩:=dM fk
 obtain ⟨g1,g2⟩:=dM fo
 have hlen:k.cells.length=ko.cells.length:=by rw [bI f1,bI g1]
 suffices hs:Instr.sameBits 10000 vo vk=true by simp [Instr.keyThatStays,hs]
 obtain ⟨c1,c2⟩:=hk.cellsOf
 obtain ⟨d1,d2⟩:=ho.cellsOf
 cases ha:te.k.isAgg with
 | true=>
   rw [ha] at f2 g2
   cases k<;>simp [D.one] at f2
   cases ko<;>simp [D.one] at g2
   rename_i cs ds
   cases hk with
   | agg vs _ p1 p2 p3=>cases ho with
     | agg us _ q1 q2 q3=>
       simp only [D.cells] at *
       show (us.size==vs.size&&(us.toList.zip vs.toList).all fun (x,y)=>Instr.sameBits 9999 x y)=true
       rw [Bool.and_eq_true]
       refine ⟨by simp [p1,q1,hlen],List.all_eq_true.2 fun ⟨a,b⟩ hab=>?_⟩
       obtain ⟨i,hi⟩:=List.getElem?_of_mem hab
       rw [List.getElem?_zip_eq_some] at hi
       have hia:us[i]?=some a:=by simpa using hi.1
       have hib:vs[i]?=some b:=by simpa using hi.2
       have hlt:i<cs.length:=by rw [← p1];exact (Array.getElem?_eq_some_iff.1 hib).1
       have hlt':i<ds.length:=by omega
       have hks:i<te.ks.length:=by rw [← bI f1];exact hlt
       exact wO (p2 i b cs[i] hib (by simp)) (q2 i a ds[i] hia (by simp)) (qL f1 i te.ks[i] cs[i] (by simp) (by simp)) (qL g1 i te.ks[i] ds[i] (by simp) (by simp)) (Ai hlen h i _ _ (by simp) (by simp))
 | false=>
   rw [ha] at f2 g2
   have ek:k.cells=[k]:=by cases k<;>first | rfl | simp [D.one] at f2
   have eo:ko.cells=[ko]:=by cases ko<;>first | rfl | simp [D.one] at g2
   rw [ek] at f1 h
   rw [eo] at g1 h
   obtain ⟨k0,hks⟩:∃ k0,te.ks=[k0]:=by
    have:=bI f1
    cases hq:te.ks with
    | nil=>rw [hq] at this;simp at this
    | cons a r=>cases r with
      | nil=>exact ⟨a,rfl⟩
      | cons b1 r=>rw [hq] at this;simp at this
   rw [hks] at f1 g1
   exact wO hk ho (qL f1 0 k0 k rfl rfl) (qL g1 0 k0 ko rfl rfl) (by simpa [aO] using h)
end
end Go.Abs
namespace Go.Abs
open Go Go.RowKit
def bF (w:World) (r:Nat) (o:Obj):World:={ w with heap:=w.heap.setIfInBounds r o }
theorem dS (w:World) (r b:Nat) (o:Obj) (h:b≠r):(bF w r o).heap[b]?=w.heap[b]?:=by
 simp [bF,Ne.symm h]
theorem um (w:World) (r:Nat) (o:Obj) (h:r<w.heap.size):(bF w r o).heap[r]?=some o:=by
 simp [bF,h]
theorem jk (w:World) (r:Nat) (o:Obj):(bF w r o).heap.size=w.heap.size:=by simp [bF]
section
variable {C:Ctx} {β:Nat→Value} {ok:Nat→Prop} {s:S} {a:Act} {w:World}
theorem Cj {wr:Nat→Nat→Prop} {w0:World} (h:Frame wr w0 w) {r:Nat} {ents:Array MapEntry} {clock:Nat} (hb:w.heap[r]?=some (.map ents clock)) (o:Obj) (hw:r<w0.heap.size→∃ o,wr r o):Frame wr w0 (bF w r o):=by
 refine ⟨h.os,h.tape,h.output,by rw [jk];exact h.size,fun b' hb' hn=>?_,fun b' c T' fz hc=>?_⟩
 ·by_cases e:b'=r
  ·subst e
   obtain ⟨o',ho⟩:=hw hb'
   exact absurd ho (hn o')
  ·rw [dS w r b' o e];exact h.blk b' hb' hn
 ·obtain ⟨c',h1,h2,h3⟩:=h.cel b' c T' fz hc
  by_cases e:b'=r
  ·subst e;rw [hb] at h1;cases h1
  ·exact ⟨c',by rw [dS w r b' o e];exact h1,h2,h3⟩
theorem RelB.JW (h:RelB C β ok s a w) {id b:Nat} {es:List (D×D)} (hr:s.hp (id,0)=some (.map es)) (hb:aG (β id)=some b) {k:Key} {r:Res} (hk:s.hp k=some r) (hne:k≠(id,0)):¬ Blk β w k r b:=by
 intro hb'
 have hid:=h.inj k (id,0) r _ b hk hr hb' (.inl hb)
 obtain ⟨k1,k2⟩:=k
 simp only at hid
 subst hid
 obtain ⟨_,ho⟩:=h.heap _ _ hk
 obtain ⟨_,_,r',ents,clock,f1,_⟩:=h.heap _ _ hr
 cases r with
 | cell x=>obtain ⟨b2,c2,T2,v2,g1,_⟩:=ho;simp only at f1 g1;rw [f1] at g1;cases g1
 | arr sz' ys=>exact hne (by have:=ho.1;simp only at this;rw [this])
 | map es=>exact hne (by have:=ho.1;simp only at this;rw [this])
 | rows sz rs out=>exact hne (by have:=ho.1;simp only at this;rw [this])
theorem RelB.Xl (h:RelB C β ok s a w) {id b:Nat} {es:List (D×D)} (hr:s.hp (id,0)=some (.map es)) (hb:aG (β id)=some b) (o:Obj) {k:Key} {r:Res} (hk:s.hp k=some r) {b':Nat} (hb':Blk β (bF w b o) k r b'):Blk β w k r b':=by
 by_cases hne:k=(id,0)
 ·subst hne
  rw [hr] at hk
  cases hk
  exact .inl hb'.map
 ·exact Blk.mono rfl (fun c hc'=>dS w b c o (fun e=>h.JW hr hb hk hne (e ▸ hc'))) hb'
theorem RelB.YO (h:RelB C β ok s a w) {dst:Option Tmp} (hd:∀ d,dst=some d→d<C.nt) {id:Nat} (hid:¬ s.used id) :
  ∃ β',RelB C β' ok (s.apply dst (.map id) [((id,0),some (.map []))] [id]) (a.put dst (.map (some w.heap.size))) (w.alloc (.map #[] 0)):=by
 have hsize:=h.size_le
 have hβ:=kC (β:=β) (v := .map (some w.heap.size)) hid
 have hk:=gZ h.okb (.map #[] 0)
 refine ⟨ghost β id (.map (some w.heap.size)),h.step hd hβ (fun _ h=>h) hk (.map id w.heap.size (.inr (by simp)) (aS _ _ _)) (fun k r hr _ b hb=>?_) (fun k r hm'=>?_) (fun k k' r r' b hm' hr hb hb'=>?_)
  (fun b hb=>by have:=h.okb b hb;simp;omega) (fun b hb => .inl hb) (h.frame.alloc _)⟩
 ·have:=h.sep k r b hr hb
  exact ⟨⟨this.1,by simp;omega⟩,.inl (heap_alloc_old w _ b this.2.1)⟩
 ·simp at hm'
  obtain ⟨rfl,rfl⟩:=hm'
  refine ⟨.inr (by simp),⟨rfl,w.heap.size,#[],0,aS _ _ _,heap_alloc_new w _,rfl,fun i m e hm=>by simp at hm⟩,fun b hb=>?_⟩
  have hb:=hb.map
  rw [aS] at hb
  simp [aG] at hb
  subst hb
  exact ⟨fun hc=>by have:=h.okb _ hc;omega,by simp,fun hc=>by omega⟩
 ·simp at hm'
  obtain ⟨rfl,rfl⟩:=hm'
  have hb:=hb.map
  rw [aS] at hb
  simp [aG] at hb
  subst hb
  rcases dB s.hp [((id,0),some (Res.map []))] k' with ⟨e,hno⟩ | ⟨r0,hm'',e⟩
  ·have hr':s.hp k'=some r':=e.symm.trans hr
   have:=(h.sep k' r' _ hr' (h.sU hβ _ hr' hb')).2.1
   omega
  ·simp at hm''
   rw [hm''.1]
theorem RelB.Sl (h:RelB C β ok s a w) {dst:Option Tmp} (hd:∀ d,dst=some d→d<C.nt) {id:Nat} {es es':List (D×D)} (hr:s.hp (id,0)=some (.map es)) {r:Nat} {ents:Array MapEntry} {clock:Nat}
  (e1:β id = .map (some r)) (e2:w.heap[r]?=some (.map ents clock)) {ents':Array MapEntry} {clock':Nat} (hl:ents'.size=es'.length)
  (hx:∀ (i:Nat) m e,ents'[i]?=some m→es'[i]?=some e→RdD ok w m.key e.1∧RdD ok w m.val e.2) (vd:Value) :
  RelB C β ok (s.apply dst .any [((id,0),some (.map es'))] []) (a.put dst vd) (bF w r (.map ents' clock')):=by
 have hu0:=(h.heap _ _ hr).1
 have hbl:aG (β id)=some r:=by rw [e1];rfl
 have hsep:=h.sep _ _ r hr (.inl hbl)
 have hk:Keeps ok w (bF w r (.map ents' clock')):=fun b hb=>dS w r b _ (fun e=>hsep.1 (e ▸ hb))
 refine h.step hd (fun _ _=>rfl) (fun _ h=>h) hk (.any _) (fun k r1 hr' hno b' hb'=>?_) (fun k r1 hm=>?_) (fun k k' r1 r' b' hm hr' hb hb'=>?_)
  (fun b hb=>by rw [jk];exact h.okb b hb) (fun b hb => .inl hb) (Cj h.frame e2 _ (fun hb0=>⟨0,hsep.2.2 hb0 0⟩))
 ·have hs:=h.sep k r1 b' hr' hb'
  refine ⟨⟨hs.1,by rw [jk];exact hs.2.1⟩,.inl (dS w r b' _ (fun e=>?_))⟩
  subst e
  exact h.JW hr hbl hr' (fun e=>hno (some (.map es')) (by simp [e])) hb'
 ·simp at hm
  obtain ⟨rfl,rfl⟩:=hm
  refine ⟨.inl hu0,⟨rfl,r,ents',clock',e1,um w r _ hsep.2.1,hl,fun i m e hm he=>⟨(hx i m e hm he).1.mono hk (fun _ h=>h),(hx i m e hm he).2.mono hk (fun _ h=>h)⟩⟩,fun b' hb'=>?_⟩
  have hb':=hb'.map
  simp only [hbl,Option.some.injEq] at hb'
  subst hb'
  exact ⟨hsep.1,by rw [jk];exact hsep.2.1,hsep.2.2⟩
 ·simp at hm
  obtain ⟨rfl,rfl⟩:=hm
  have hb:=hb.map
  simp only [hbl,Option.some.injEq] at hb
  subst hb
  rcases dB s.hp [((id,0),some (Res.map es'))] k' with ⟨e,hno⟩ | ⟨r0,hm',e⟩
  ·have h2:s.hp k'=some r':=e.symm.trans hr'
   exact (h.inj k' (id,0) r' _ r h2 hr (h.Xl hr hbl _ h2 hb') (.inl hbl)).symm
  ·simp at hm'
   rw [hm'.1]
end
section
variable {P:Program} {T:Nat→TE}
theorem TOK.map (hT:TOK P T) {t k e:Nat} (hk:(T t).k = .map k e):P.underlying t=some (.map k e):=by
 obtain ⟨d,i,h⟩:=hT.facts (t:=t) (by rw [hk];intro e;cases e)
 have hd:=h.k
 rw [hk] at hd
 rw [jm.2.2.2.2.2 k e hd.symm] at h
 exact h.und
def G5 (n:Nat) (K:KK):Prop:=K (.map n) [((n,0),some (.map []))] [] [n]
theorem AU {o:Oper} {t:Nat} (ho:o.op = .makeMap t none) {vals:List V} {h:Key→Option Res} {n:Nat} {K:KK} (hK:G5 n K):∃ x δ rd nw,K x δ rd nw∧aI P o vals h x δ rd nw:=by
 refine ⟨_,_,_,_,hK,aI.of_run fun C β ok s a w hr g1 g2 g3 g4 g5=>?_⟩
 obtain ⟨β',hrel⟩:=hr.YO (dst:=o.dst) g4 (g3 n (by simp))
 exact ⟨_,_,.inl (by simp [execOp,ho,Instr.makeMap,newObj,Sem.run]),β',ok,hrel⟩
def uM (x:D) (K:List (D×D)→Prop):Prop:=match x with | .map es=>K es | _=>False
theorem Oe {x:D} {K:List (D×D)→Prop} (h:uM x K):∃ es,x = .map es∧K es:=by cases x<;>first | exact ⟨_,rfl,h⟩ | exact h.elim
def IX (r:Option Res) (K:List (D×D)→Prop):Prop:=match r with | some (.map es)=>K es | _=>False
theorem Ac {r:Option Res} {K:List (D×D)→Prop} (h:IX r K):∃ es,r=some (.map es)∧K es:=by
 unfold IX at h;split at h
 ·exact ⟨_,rfl,h⟩
 ·exact h.elim
def mapOf (m:V) (h:Key→Option Res) (K:List (D×D)→List Key→Prop):Prop:=
 match m with
 | .map id=>IX (h (id,0)) fun es=>K es [(id,0)]
 | .d x=>uM x fun es=>K es []
 | _=>False
def HasMap (ok:Nat→Prop) (w:World) (v:Value) (es:List (D×D)):Prop:=
 (v = .map none∧es=[])∨∃ r ents clock,v = .map (some r)∧w.heap[r]?=some (.map ents clock)∧ents.size=es.length ∧
  ∀ (i:Nat) (m:MapEntry) (e:D×D),ents[i]?=some m→es[i]?=some e→RdD ok w m.key e.1∧RdD ok w m.val e.2
theorem Nh {m:V} {h:Key→Option Res} {K:List (D×D)→List Key→Prop} (hK:mapOf m h K):∃ es rd,K es rd ∧
  ∀ (β:Nat→Value) (u ok:Nat→Prop) (w:World) v,RdV β u ok w v m→(∀ k∈rd,∀ r,h k=some r→Own β u ok w k r)→HasMap ok w v es:=by
 unfold mapOf at hK
 split at hK
 ·rename_i id
  obtain ⟨es,he,hK⟩:=Ac hK
  refine ⟨es,_,hK,fun β u ok w v hv ho=>?_⟩
  obtain ⟨_,r,ents,clock,h1,h2,h3,h4⟩:=ho (id,0) (by simp) _ he
  cases hv with
  | map _ r' p1 p2=>
    simp only at h1
    rw [p2] at h1
    have e:r'=r:=by simpa using h1
    subst e
    exact .inr ⟨r',ents,clock,rfl,h2,h3,h4⟩
 ·obtain ⟨es,rfl,hK⟩:=Oe hK
  refine ⟨es,_,hK,fun β u ok w v hv _=>?_⟩
  have:=hv.dW
  cases this with
  | QW=>exact .inl ⟨rfl,rfl⟩
  | map r clock ents _ q1 q2 q3 q4 q5=>exact .inr ⟨r,ents,clock,rfl,q2,q3,fun i m e hm he=>⟨q4 i m e hm he,q5 i m e hm he⟩⟩
 ·exact hK.elim
def D9 (T:Nat→TE) (te:TE) (commaOk:Bool) (vals:List V) (h:Key→Option Res) (K:KK):Prop:=
 match te.k,vals with
 | .map kt et,[m,k]=>aU ((T kt).known&&(!(T kt).ks.isEmpty)&&(T et).known&&okC (T et).zero) (mapOf m h fun es rd=>vD k fun kd=>aU (aY (T kt) kd)
   ((∀ e∈es,aY (T kt) e.1=true)∧vD (Et (T et).zero) fun z=>match commaOk with
     | false=>K (.d ((look es kd).getD z)) [] rd []
     | true=>K (.tuple [.d ((look es kd).getD z),.d (.bool (look es kd).isSome)]) [] rd []))
 | _,_=>False
theorem JH (hT:TOK P T) {t kt et:Nat} (hk:(T t).k = .map kt et) (h1:(T kt).known=true) (h2:(!(T kt).ks.isEmpty)=true) (h3:(T et).known=true) {ok:Nat→Prop} {w:World} {vm vk:Value} {es:List (D×D)} {k z:D}
  (hm:HasMap ok w vm es) (hkd:RdD ok w vk k) (hfit:aY (T kt) k=true) (hf:∀ e∈es,aY (T kt) e.1=true) (hz:RdD ok w (T et).zero z) (c:Bool) :
  ∃ v,(Instr.lookup t vm vk c).run P w = .ok (if c then .tuple #[v,.bool (look es k).isSome] else v) w∧RdD ok w v ((look es k).getD z):=by
 have hu:=hT.map hk
 have hKT:=hT.Zk h1 h2
 obtain ⟨d,i,hfe⟩:=hT.facts (TE.aH h3)
 have hzero:(zeroValue et).run P w = .ok (T et).zero w:=by simp [zeroValue,typeInfo,hfe.info,hfe.zero]
 have hck:∀ em,(Instr.checkKey em 10000 kt vk).run P w = .ok () w:=fun em=>mF hKT hkd hfit em
 rcases hm with ⟨rfl,rfl⟩ | ⟨r,ents,clock,rfl,e2,e3,e4⟩
 ·refine ⟨(T et).zero,?_,hz⟩
  have hfk:(Instr.findKey kt vk []).run P w = .ok none w:=by
   rw [jP hKT hkd hfit [] [] rfl (fun j m e h=>by simp at h) hf];simp [Instr.findAsking]
  cases c<;>simp [Instr.lookup,run_underlying hu,hck,hfk,hzero,look]
 ·have hfa:=gy hKT hkd hfit ents.toList es 0 (by simpa using e3) (fun j m e hm he=>(e4 j m e (by simpa using hm) he).1) hf
  have hfk:=jP hKT hkd hfit ents.toList es (by simpa using e3) (fun j m e hm he=>(e4 j m e (by simpa using hm) he).1) hf
  rcases hfa with ⟨q1,q2,_,_⟩ | ⟨j,m,e,q1,q2,q3,q4,_,_,_⟩
  ·rw [q1] at hfk
   have hl:look es k=none:=by rw [vO es k 0,q2];rfl
   refine ⟨(T et).zero,?_,by rw [hl];exact hz⟩
   cases c<;>simp [Instr.lookup,run_underlying hu,hck,hfk,hzero,hl,Go.MapKept.run_getObj_map e2]
  ·rw [q1] at hfk
   have hl:look es k=some e.2:=by rw [vO es k 0,q4];rfl
   refine ⟨m.val,?_,by rw [hl];exact (e4 j m e (by simpa using q2) q3).2⟩
   cases c<;>simp [Instr.lookup,run_underlying hu,hck,hfk,hl,Go.MapKept.run_getObj_map e2]
theorem D8 (hT:TOK P T) {o:Oper} {t:Nat} {x y:Operand} {c:Bool} (ho:o.op = .lookup t x y c) {vals:List V} {h:Key→Option Res} {K:KK} (hK:D9 T (T t) c vals h K) :
  ∃ x δ rd nw,K x δ rd nw∧aI P o vals h x δ rd nw:=by
 unfold D9 at hK
 split at hK
 ·rename_i kt et m k hk
  obtain ⟨hb,hK⟩:=ak hK
  simp only [Bool.and_eq_true] at hb
  obtain ⟨⟨⟨b1,b2⟩,b3⟩,b4⟩:=hb
  obtain ⟨es,rd,hK,hm⟩:=Nh hK
  obtain ⟨kd,hK,hkd⟩:=lG hK
  obtain ⟨hfit,hf,hK⟩:=ak hK
  obtain ⟨z,hK,hz⟩:=lG hK
  have main:∀ (β:Nat→Value) (u ok:Nat→Prop) (w:World) (ρ:Operand→Value) (e:Operand→V),(∀ q∈o.op.operands.toList,RdV β u ok w (ρ q) (e q))→o.op.operands.toList.map e=[m,k] →
    (∀ k∈rd,∀ r,h k=some r→Own β u ok w k r)→∃ v,(execOp ρ o).run P w = .ok (.value (if c then .tuple #[v,.bool (look es kd).isSome] else v)) w∧RdD ok w v ((look es kd).getD z):=by
   intro β u ok w ρ e g1 g2 g3
   simp only [ho,Op.operands,List.map_cons,List.map_nil,List.cons.injEq,and_true] at g1 g2
   have hx:=g1 x (by simp)
   have hy:=g1 y (by simp)
   rw [g2.1] at hx
   rw [g2.2] at hy
   obtain ⟨v,q1,q2⟩:=JH hT hk b1 b2 b3 (hm β u ok w _ hx g3) (hkd β u ok w _ hy) hfit hf (hz β u ok w _ (yQ β u ok w _ b4)) c
   exact ⟨v,by simp [execOp,ho,q1],q2⟩
  cases c with
  | false=>
    refine ⟨_,_,_,_,hK,aI.bT fun β u ok w ρ e g1 g2 g3=>?_⟩
    obtain ⟨v,q1,q2⟩:=main β u ok w ρ e g1 g2 g3
    exact ⟨v,by simpa using q1,.d _ _ q2⟩
  | true=>
    refine ⟨_,_,_,_,hK,aI.bT fun β u ok w ρ e g1 g2 g3=>?_⟩
    obtain ⟨v,q1,q2⟩:=main β u ok w ρ e g1 g2 g3
    refine ⟨.tuple #[v,.bool (look es kd).isSome],by simpa using q1,.tuple _ _ rfl (fun i v' x' h1 h2=>?_)⟩
    match i with
    | 0=>simp at h1 h2;subst h1;subst h2;exact .d _ _ q2
    | 1=>simp at h1 h2;subst h1;subst h2;exact .d _ _ (.bool _)
    | i+2=>simp at h2
 ·exact hK.elim
def qO (T:Nat→TE) (te:TE) (vals:List V) (h:Key→Option Res) (K:KK):Prop:=
 match te.k,vals with
 | .map kt _,[.map id,k,v]=>aU ((T kt).known&&(!(T kt).ks.isEmpty)) (IX (h (id,0)) fun es=>vD k fun kd=>vD v fun vd=>aU (aY (T kt) kd)
   ((∀ e∈es,aY (T kt) e.1=true)∧K .any [((id,0),some (.map (Ih es kd vd)))] [(id,0)] []))
 | _,_=>False
theorem BP (hT:TOK P T) {t kt et:Nat} (hk:(T t).k = .map kt et) (h1:(T kt).known=true) (h2:(!(T kt).ks.isEmpty)=true) {ok:Nat→Prop} {w:World} {vk vv:Value} {es:List (D×D)} {k x:D} {r clock:Nat} {ents:Array MapEntry}
  (e2:w.heap[r]?=some (.map ents clock)) (e3:ents.size=es.length) (e4:∀ (i:Nat) (m:MapEntry) (e:D×D),ents[i]?=some m→es[i]?=some e→RdD ok w m.key e.1∧RdD ok w m.val e.2)
  (hkd:RdD ok w vk k) (hv:RdD ok w vv x) (hfit:aY (T kt) k=true) (hf:∀ e∈es,aY (T kt) e.1=true) :
  ∃ ents' clock',(Instr.mapUpdate t (.map (some r)) vk vv).run P w = .ok () (bF w r (.map ents' clock'))∧ents'.size=(Ih es k x).length ∧
    ∀ (i:Nat) (m:MapEntry) (e:D×D),ents'[i]?=some m→(Ih es k x)[i]?=some e→RdD ok w m.key e.1∧RdD ok w m.val e.2:=by
 have hu:=hT.map hk
 have hKT:=hT.Zk h1 h2
 have hck:∀ em,(Instr.checkKey em 10000 kt vk).run P w = .ok () w:=fun em=>mF hKT hkd hfit em
 have hfa:=gy hKT hkd hfit ents.toList es 0 (by simpa using e3) (fun j m e hm he=>(e4 j m e (by simpa using hm) he).1) hf
 have hfk:=jP hKT hkd hfit ents.toList es (by simpa using e3) (fun j m e hm he=>(e4 j m e (by simpa using hm) he).1) hf
 rcases hfa with ⟨q1,q2,q3,_⟩ | ⟨j,m,e,q1,q2,q3,q4,q5,q6,_⟩
 ·rw [q1] at hfk
  refine ⟨ents.push { key:=vk,val:=vv,born:=clock },clock+1,?_,by rw [q3];simp [e3],fun i m e hm he=>?_⟩
  ·simp [Instr.mapUpdate,run_underlying hu,Go.MapKept.run_getObj_map e2,hck,hfk,Go.MapKept.run_setObj_map _ e2,bF]
  ·rw [q3] at he
   rcases Nat.lt_or_ge i ents.size with hi | hi
   ·rw [Array.getElem?_push,if_neg (by omega)] at hm
    rw [List.getElem?_append_left (by omega)] at he
    exact e4 i m e hm he
   ·have hie:i=ents.size:=by
     have:=(Array.getElem?_eq_some_iff.1 hm).1
     simp at this;omega
    subst hie
    rw [e3,List.getElem?_append_right (Nat.le_refl _)] at he
    simp at hm he
    subst hm;subst he
    exact ⟨hkd,hv⟩
 ·rw [q1] at hfk
  have q2':ents[j]?=some m:=by simpa using q2
  have hj:j<ents.size:=(Array.getElem?_eq_some_iff.1 q2').1
  have hks:=run_keyThatStays (P:=P) (w:=w) hkd (e4 j m e q2' q3).1 hfit (hf e (List.mem_of_getElem? q3)) q5
  refine ⟨ents.modify j fun e=>{ e with key:=vk,val:=vv },clock,?_,by rw [q6];simp [e3],fun i m' e' hm he=>?_⟩
  ·simp [Instr.mapUpdate,run_underlying hu,Go.MapKept.run_getObj_map e2,hck,hfk,q2',hks,Go.MapKept.run_setObj_map _ e2,bF]
  ·rw [q6] at he
   by_cases hij:j=i
   ·subst hij
    rw [List.getElem?_set_self (by omega)] at he
    rw [Array.getElem?_modify,if_pos rfl,q2'] at hm
    simp at he hm
    subst hm;subst he
    exact ⟨hkd,hv⟩
   ·rw [List.getElem?_set_ne hij] at he
    rw [Array.getElem?_modify,if_neg hij] at hm
    exact e4 i m' e' hm he
theorem xX (hT:TOK P T) {o:Oper} {t:Nat} {x y z:Operand} (ho:o.op = .mapUpdate t x y z) {vals:List V} {h:Key→Option Res} {K:KK} (hK:qO T (T t) vals h K) :
  ∃ x δ rd nw,K x δ rd nw∧aI P o vals h x δ rd nw:=by
 unfold qO at hK
 split at hK
 ·rename_i kt et id k v hk
  obtain ⟨hb,hK⟩:=ak hK
  simp only [Bool.and_eq_true] at hb
  obtain ⟨es,he,hK⟩:=Ac hK
  obtain ⟨kd,hK,hkd⟩:=lG hK
  obtain ⟨vd,hK,hvd⟩:=lG hK
  obtain ⟨hfit,hf,hK⟩:=ak hK
  refine ⟨_,_,_,_,hK,aI.of_run fun C β ok s a w hr g1 g2 g3 g4 g5=>?_⟩
  simp only [ho,Op.operands,List.map_cons,List.map_nil,List.cons.injEq,and_true] at g1 g5
  have hx:=hr.eval x (g5 x (by simp))
  have hy:=hr.eval y (g5 y (by simp))
  have hz:=hr.eval z (g5 z (by simp))
  rw [g1.1] at hx
  rw [g1.2.1] at hy
  rw [g1.2.2] at hz
  have hs:s.hp (id,0)=some (.map es):=by rw [g2 _ (by simp),he]
  obtain ⟨_,_,r,ents,clock,e1,e2,e3,e4⟩:=h_own hr hs
  generalize hvx:a.eval x=vx at hx
  cases hx with
  | map _ r' p1 p2=>
    simp only at e1
    rw [p2] at e1
    have e:r'=r:=by simpa using e1
    subst e
    obtain ⟨ents',clock',f1,f2,f3⟩:=BP hT hk hb.1 hb.2 e2 e3 e4 (hkd β s.used ok w _ hy) (hvd β s.used ok w _ hz) hfit hf
    exact ⟨undef,bF w r' (.map ents' clock'),.inr ⟨by simp [execOp,ho,hvx,f1],rfl⟩,β,ok,hr.Sl g4 hs p2 e2 f2 f3 undef⟩
 ·exact hK.elim
 where h_own {C:Ctx} {β:Nat→Value} {ok:Nat→Prop} {s:S} {a:Act} {w:World} (hr:RelB C β ok s a w) {id:Nat} {es:List (D×D)} (hs:s.hp (id,0)=some (.map es)):s.used id∧Own β s.used ok w (id,0) (.map es):=hr.heap _ _ hs
end
end Go.Abs
