/- Maps of the call's own: keys found, entries put and taken away. -/
import Derived.Test.YtpmapognbdiahaaGreatDoorAbsLAnd
import Derived.MapKept
import Derived.WideKeyRuns
set_option linter.all false
namespace Go.Abs
open Go Go.RowKit
def bW (te:TE) (k:D):Bool:=match fG te.ks k.cells with
 | true=>(match k.one with | true=>!te.k.isAgg | false=>te.k.isAgg)
 | false=>false
def o9:List (D×D)→D→Nat→Option (Nat×D)
 | [],_,_=>none
 | e::es,k,i=>match aW k.cells e.1.cells with | true=>some (i,e.2) | false=>o9 es k (i+1)
def look:List (D×D)→D→Option D
 | [],_=>none
 | e::es,k=>match aW k.cells e.1.cells with | true=>some e.2 | false=>look es k
def Qb:List (D×D)→D→D→List (D×D)
 | [],k,v=>[(k,v)]
 | e::es,k,v=>match aW k.cells e.1.cells with | true=>(k,v)::es | false=>e::Qb es k v
def QN:List (D×D)→D→List (D×D)
 | [],_=>[]
 | e::es,k=>match aW k.cells e.1.cells with | true=>es | false=>e::QN es k
section
variable {P:Program} {T:Nat→TE} {ok:Nat→Prop} {w:World}
structure WO (P:Program) (te:TE) (kt:Nat):Prop where
 eq:Xd P 10000 kt te.ks
 agg:kP P kt=te.k.isAgg
 plain:te.k.isAgg=false→∃ d,P.underlying kt=some d∧((d = .bool∧te.ks=[.b])∨(∃ k,d = .int k∧te.ks=[.i k])∨(d = .string∧te.ks=[.s]))
 wide:te.k.isAgg=true→(match P.underlying kt with | some (.array _ _) | some (.struct _)=>true | _=>false)=true
theorem TOK.lW (hT:TOK P T) {kt:Nat} (hk:(T kt).known=true) (hn:(!(T kt).ks.isEmpty)=true):WO P (T kt) kt:=by
 have hne:(T kt).ks≠[]:=by intro e;rw [e] at hn;cases hn
 obtain ⟨d,i,hf⟩:=hT.facts (TE.bg hk);obtain ⟨_,hs⟩:=hT.keys (TE.bg hk) hne;have hkk:=hf.k;have hag:kP P kt=(T kt).k.isAgg:=by
  unfold kP;rw [hf.und,hkk];have:=TE.bg hk;rw [hkk] at this;cases d
  case struct fs=>
   simp only [kOf] at this ⊢;split at this
   ·rename_i h;rw [if_pos h];rfl
   ·exact absurd rfl this
  case array n e=>
   simp only [kOf] at this ⊢;split at this
   ·rename_i h;rw [if_pos h];rfl
   ·exact absurd rfl this
  all_goals first | rfl | exact absurd rfl this
 refine ⟨vZ 9994 6 kt _ hs,hag,fun ha=>⟨d,hf.und,?_⟩,fun ha=>?_⟩
 ·rw [← hag] at ha;unfold kP at ha;rw [hf.und] at ha;simp only [rC,hf.und] at hs;cases d<;>simp at hs ha
  ·exact .inl ⟨rfl,hs.symm⟩
  ·exact .inr (.inl ⟨_,rfl,hs.symm⟩)
  ·exact .inr (.inr ⟨rfl,hs.symm⟩)
 ·rw [← hag] at ha;unfold kP at ha;split at ha<;>simp_all
theorem dU {te:TE} {k:D} (h:bW te k=true):fG te.ks k.cells=true∧k.one=!te.k.isAgg:=by
 unfold bW at h;split at h
 ·rename_i h1;refine ⟨h1,?_⟩;split at h
  ·rename_i h2;rw [h2,h]
  ·rename_i h2;rw [h2,h];rfl
 ·cases h
theorem nZ {te:TE} {kt:Nat} (hK:WO P te kt) {vk:Value} {k:D} (hk:RdD ok w vk k) (hfit:bW te k=true):∀ (ents:List MapEntry) (es:List (D×D)) (i:Nat),ents.length=es.length →
  (∀ (j:Nat) m e,ents[j]?=some m→es[j]?=some e→RdD ok w m.key e.1)→(∀ e∈es,bW te e.1=true) →
  ((Instr.findAsking kt vk ents i).run P w = .ok none w∧o9 es k i=none∧(∀ v,Qb es k v=es++[(k,v)])∧QN es k=es) ∨
  ∃ j m e,(Instr.findAsking kt vk ents i).run P w = .ok (some (i+j,m.val)) w∧ents[j]?=some m∧es[j]?=some e∧o9 es k i=some (i+j,e.2)∧aW k.cells e.1.cells=true∧(∀ v,Qb es k v=es.set j (k,v))∧QN es k=es.eraseIdx j
 | [],[],i,_,_,_ => .inl ⟨by simp [Instr.findAsking],rfl,fun _=>rfl,rfl⟩
 | [],_::_,_,h,_,_=>by simp at h
 | _::_,[],_,h,_,_=>by simp at h
 | m::ents,e::es,i,hl,hr,hf=>by
   obtain ⟨f1,f2⟩:=dU hfit;obtain ⟨g1,g2⟩:=dU (hf e (by simp));have he:=(hK.eq ok w vk m.key k e.1 hk (hr 0 m e rfl rfl) (by rw [Shape,hK.agg];exact f2) (by rw [Shape,hK.agg];exact g2) f1 g1).1;have he':(Op.equal kt vk m.key).run P w = .ok (aW k.cells e.1.cells) w:=he;cases hb:aW k.cells e.1.cells with
   | true=>
     rw [hb] at he';exact .inr ⟨0,m,e,by simp [Instr.findAsking,he'],rfl,rfl,by simp [o9,hb],hb,fun v=>by simp [Qb,hb],by simp [QN,hb]⟩
   | false=>
     rw [hb] at he';rcases nZ hK hk hfit ents es (i+1) (by simpa using hl) (fun j m e hm he=>hr (j+1) m e (by simpa using hm) (by simpa using he)) (fun e he=>hf e (by simp [he])) with ⟨q1,q2,q3,q4⟩ | ⟨j,m',e',q1,q2,q3,q4,q5,q6,q7⟩
     ·exact .inl ⟨by simp [Instr.findAsking,he',q1],by simp [o9,hb,q2],fun v=>by simp [Qb,hb,q3],by simp [QN,hb,q4]⟩
     ·exact .inr ⟨j+1,m',e',by simp [Instr.findAsking,he',q1];omega,by simpa using q2,by simpa using q3,by simp [o9,hb,q4];omega,q5,fun v=>by simp [Qb,hb,q6],by simp [QN,hb,q7]⟩
theorem o8 {te:TE} {kt:Nat} (hK:WO P te kt) {td:TypeDesc} (hu:P.underlying kt=some td) (ha:te.k.isAgg=false) {vk:Value} {k:D} (hk:RdD ok w vk k) (hfit:bW te k=true):∀ (ents:List MapEntry) (es:List (D×D)) (i:Nat),ents.length=es.length →
  (∀ (j:Nat) m e,ents[j]?=some m→es[j]?=some e→RdD ok w m.key e.1)→(∀ e∈es,bW te e.1=true) →
  ∃ r,Instr.findNow td vk ents i=some r∧(Instr.findAsking kt vk ents i).run P w = .ok r w
 | [],[],i,_,_,_=>⟨none,rfl,by simp [Instr.findAsking]⟩
 | [],_::_,_,h,_,_=>by simp at h
 | _::_,[],_,h,_,_=>by simp at h
 | m::ents,e::es,i,hl,hr,hf=>by
   obtain ⟨f1,f2⟩:=dU hfit;obtain ⟨g1,g2⟩:=dU (hf e (by simp));have hm:=hr 0 m e rfl rfl;have he':(Op.equal kt vk m.key).run P w = .ok (aW k.cells e.1.cells) w:=(hK.eq ok w vk m.key k e.1 hk hm (by rw [Shape,hK.agg];exact f2) (by rw [Shape,hK.agg];exact g2) f1 g1).1;have hs:Instr.sameNow td vk m.key=some (aW k.cells e.1.cells):=by
    obtain ⟨d,hd,hcase⟩:=hK.plain ha;rw [hu] at hd;simp only [Option.some.injEq] at hd;subst hd;rw [ha] at f2 g2;generalize e.1=ek at hm g1 g2;rcases hcase with ⟨rfl,hks⟩ | ⟨kd,rfl,hks⟩ | ⟨rfl,hks⟩<;>rw [hks] at f1 g1
    ·cases k<;>simp [D.one,D.cells,fG,gW] at f1 f2;cases ek<;>simp [D.one,D.cells,fG,gW] at g1 g2;cases hk;generalize m.key=mk at hm;cases hm;simp [Instr.sameNow,D.cells,aW,eq1]
    ·cases k<;>simp [D.one,D.cells,fG] at f1 f2<;>try (simp [gW] at f1;done)
     cases ek<;>simp [D.one,D.cells,fG] at g1 g2<;>try (simp [gW] at g1;done)
     rename_i k1 n1 k2 n2;have e1:kd=k1:=mQ (n:=n1) (by split at f1;assumption;cases f1);have e2:kd=k2:=mQ (n:=n2) (by split at g1;assumption;cases g1);subst e1;subst e2;cases hk;generalize m.key=mk at hm;cases hm;simp [Instr.sameNow,D.cells,aW,eq1]
    ·cases k<;>simp [D.one,D.cells,fG,gW] at f1 f2;cases ek<;>simp [D.one,D.cells,fG,gW] at g1 g2;rename_i s1 s2;cases hk;generalize m.key=mk at hm;cases hm;have ea:(⟨s1.toArray⟩:ByteArray).toList=s1:=(by rw [ByteArray.toList_eq]);have eb:(⟨s2.toArray⟩:ByteArray).toList=s2:=(by rw [ByteArray.toList_eq]);simp [Instr.sameNow,D.cells,aW,eq1,beq_toListBytes,ea,eb]
   cases hb:aW k.cells e.1.cells with
   | true=>
     rw [hb] at he' hs;exact ⟨some (i,m.val),by simp [Instr.findNow,hs],by simp [Instr.findAsking,he']⟩
   | false=>
     rw [hb] at he' hs;obtain ⟨r,q1,q2⟩:=o8 hK hu ha hk hfit ents es (i+1) (by simpa using hl) (fun j m e hm he=>hr (j+1) m e (by simpa using hm) (by simpa using he)) (fun e he=>hf e (by simp [he]));exact ⟨r,by simp [Instr.findNow,hs,q1],by simp [Instr.findAsking,he',q2]⟩
theorem Em {te:TE} {kt:Nat} (hK:WO P te kt) {vk:Value} {k:D} (hk:RdD ok w vk k) (hfit:bW te k=true) (ents:List MapEntry) (es:List (D×D)) (hl:ents.length=es.length)
  (hr:∀ (j:Nat) m e,ents[j]?=some m→es[j]?=some e→RdD ok w m.key e.1) (hf:∀ e∈es,bW te e.1=true) :
  (Instr.findKey kt vk ents).run P w=(Instr.findAsking kt vk ents).run P w:=by
 cases ha:te.k.isAgg with
 | true=>exact run_findKey_eq w (hK.wide ha) vk ents
 | false=>
   obtain ⟨d,hd,_⟩:=hK.plain ha;obtain ⟨r,q1,q2⟩:=o8 hK hd ha hk hfit ents es 0 hl hr hf;rw [Go.MapKept.run_findKey hd q1,q2]
theorem AX {te:TE} {kt:Nat} (hK:WO P te kt) {vk:Value} {k:D} (hk:RdD ok w vk k) (hfit:bW te k=true) (em:Bool):(Instr.checkKey em 10000 kt vk).run P w = .ok () w:=by
 obtain ⟨f1,f2⟩:=dU hfit;exact (hK.eq ok w vk vk k k hk hk (by rw [Shape,hK.agg];exact f2) (by rw [Shape,hK.agg];exact f2) f1 f1).2 em
theorem wU:∀ {xs ys:List D},xs.length=ys.length→aW xs ys=true→∀ (i:Nat) x y,xs[i]?=some x→ys[i]?=some y→eq1 x y=true
 | [],_,_,_,i,x,y,h,_=>by simp at h
 | _::_,[],h,_,_,_,_,_,_=>by simp at h
 | x::xs,y::ys,hl,h,i,a,b,ha,hb=>by
   rw [jK x y xs ys (by simpa using hl)] at h;simp only [Bool.and_eq_true] at h;cases i with
   | zero=>simp at ha hb;subst ha;subst hb;exact h.1
   | succ i=>exact wU (by simpa using hl) h.2 i a b (by simpa using ha) (by simpa using hb)
theorem oZ:∀ {ks:List SK} {cs:List D},fG ks cs=true→∀ (i:Nat) k c,ks[i]?=some k→cs[i]?=some c→gW k c=true
 | [],_,_,i,k,c,h,_=>by simp at h
 | _::_,[],h,_,_,_,_,_=>by simp [fG] at h
 | k::ks,c::cs,h,i,k',c',hk,hc=>by
   unfold fG at h;split at h
   ·rename_i h1;cases i with
    | zero=>simp at hk hc;subst hk;subst hc;exact h1
    | succ i=>exact oZ h i k' c' (by simpa using hk) (by simpa using hc)
   ·cases h
theorem sJ {n:Nat} {k:SK} {x y:D} {vx vy:Value} (hx:RdD ok w vx x) (hy:RdD ok w vy y) (fx:gW k x=true) (fy:gW k y=true) (h:eq1 x y=true):Instr.sameBits n vy vx=true:=by
 cases k
 ·cases x<;>simp [gW] at fx;cases y<;>simp [gW] at fy;cases hx;cases hy;simp [eq1] at h;simp [Instr.sameBits,h]
 ·cases x<;>try (simp [gW] at fx;done)
  cases y<;>try (simp [gW] at fy;done)
  rename_i kd k1 n1 k2 n2;have e1:kd=k1:=mQ (n:=n1) fx;have e2:kd=k2:=mQ (n:=n2) fy;subst e1;subst e2;cases hx;cases hy;simp [eq1] at h;simp [Instr.sameBits,h]
 ·cases x<;>simp [gW] at fx;cases y<;>simp [gW] at fy;cases hx;cases hy;simp [eq1] at h;subst h;have e:∀ (a b:ByteArray),Instr.sameBits n (.string a) (.string b)=(a==b):=fun a b=>by cases n<;>rfl
  rw [e,beq_toListBytes];simp
theorem run_keyThatStays {te:TE} {vk vo:Value} {k ko:D} (hk:RdD ok w vk k) (ho:RdD ok w vo ko) (fk:bW te k=true) (fo:bW te ko=true) (h:aW k.cells ko.cells=true):(Instr.keyThatStays vo vk).run P w = .ok vk w:=by
 obtain ⟨f1,f2⟩:=dU fk;obtain ⟨g1,g2⟩:=dU fo;have hlen:k.cells.length=ko.cells.length:=by rw [dn f1,dn g1]
 suffices hs:Instr.sameBits 10000 vo vk=true by simp [Instr.keyThatStays,hs]
 obtain ⟨c1,c2⟩:=hk.cellsOf;obtain ⟨d1,d2⟩:=ho.cellsOf;cases ha:te.k.isAgg with
 | true=>
   rw [ha] at f2 g2;cases k<;>simp [D.one] at f2;cases ko<;>simp [D.one] at g2;rename_i cs ds;cases hk with
   | agg vs _ p1 p2 p3=>cases ho with
     | agg us _ q1 q2 q3=>
       simp only [D.cells] at *;show (us.size==vs.size&&(us.toList.zip vs.toList).all fun (x,y)=>Instr.sameBits 9999 x y)=true;rw [Bool.and_eq_true];refine ⟨by simp [p1,q1,hlen],List.all_eq_true.2 fun ⟨a,b⟩ hab=>?_⟩;obtain ⟨i,hi⟩:=List.getElem?_of_mem hab;rw [List.getElem?_zip_eq_some] at hi;have hia:us[i]?=some a:=(by simpa using hi.1);have hib:vs[i]?=some b:=(by simpa using hi.2);have hlt:i<cs.length:=(by rw [← p1];exact (Array.getElem?_eq_some_iff.1 hib).1);have hlt':i<ds.length:=(by omega);have hks:i<te.ks.length:=(by rw [← dn f1];exact hlt);exact sJ (p2 i b cs[i] hib (by simp)) (q2 i a ds[i] hia (by simp)) (oZ f1 i te.ks[i] cs[i] (by simp) (by simp)) (oZ g1 i te.ks[i] ds[i] (by simp) (by simp)) (wU hlen h i _ _ (by simp) (by simp))
 | false=>
   rw [ha] at f2 g2;have ek:k.cells=[k]:=by cases k<;>first | rfl | simp [D.one] at f2
   have eo:ko.cells=[ko]:=by cases ko<;>first | rfl | simp [D.one] at g2
   rw [ek] at f1 h;rw [eo] at g1 h;obtain ⟨k0,hks⟩:∃ k0,te.ks=[k0]:=by
    have:=dn f1;cases hq:te.ks with
    | nil=>rw [hq] at this;simp at this
    | cons a r=>cases r with
      | nil=>exact ⟨a,rfl⟩
      | cons b1 r=>rw [hq] at this;simp at this
   rw [hks] at f1 g1;exact sJ hk ho (oZ f1 0 k0 k rfl rfl) (oZ g1 0 k0 ko rfl rfl) (by simpa [aW] using h)
end
def fV (w:World) (r:Nat) (o:Obj):World:={ w with heap:=w.heap.setIfInBounds r o }
theorem yU (w:World) (r b:Nat) (o:Obj) (h:b≠r):(fV w r o).heap[b]?=w.heap[b]?:=by
 simp [fV,Ne.symm h]
theorem AY (w:World) (r:Nat) (o:Obj) (h:r<w.heap.size):(fV w r o).heap[r]?=some o:=by
 simp [fV,h]
section
variable {C:Ctx} {β:Nat→Value} {ok:Nat→Prop} {s:S} {a:Act} {w:World}
end
section
variable {P:Program} {T:Nat→TE}
theorem TOK.map (hT:TOK P T) {t k e:Nat} (hk:(T t).k = .map k e):P.underlying t=some (.map k e):=by
 obtain ⟨d,i,h⟩:=hT.facts (t:=t) (by rw [hk];intro e;cases e);have hd:=h.k;rw [hk] at hd;rw [nP.2.2.2.2.2 k e hd.symm] at h;exact h.und
end
end Go.Abs
