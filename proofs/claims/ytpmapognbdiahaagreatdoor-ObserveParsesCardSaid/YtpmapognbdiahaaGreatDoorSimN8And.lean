/- Sim: regions whose order is drawn: the trace with the heaps of the phases. -/
import Derived.Test.YtpmapognbdiahaaGreatDoorSimN2And
set_option linter.all false
namespace Go.Sim
open Go Go.RowKit
open Go.Abs (TE TK SK TOK TFacts patch size_patch patch_in patch_out)
section
variable {P:Program} {T:Nat→TE} {w0:World} {ng:Nat}
noncomputable def stO (sz hi off:Nat) (v:V) (cs:Tr V):Obj := .blk false sz (max hi (off+(cellsOf v).length)) (fB (cellsOf v) cs off)
def ajM (ng:Nat) (k cl:Nat) (o:Oper) (env:Tr V) (h h':Tr Obj×B) (b:Bool):Prop:=cl=2→b=true→∀ ty x y,o.op = .store ty x y →
 ∃ id off v sz hi cs,(bJ o.op).map (opV ng env)=[.ptr id off,v]∧id.get h.1=some (.blk false sz hi cs)∧h'=(id.put h.1 (some (stO sz hi off v cs)),h.2)
def Jl (P:Program) (T:Nat→TE) (w0:World) (ng:Nat) (all:List Oper) (it:DI) (env env':Tr V) (h h':Tr Obj×B) (hs hs':List (Tr Obj×B)) (b:Bool) (v:V):Prop:=
 ∃ o,pK P T w0 ng all ⟨it.k,it.cl,it.back,o,[],0⟩ env env' h h' hs hs' b v∧ajM ng it.k it.cl o env h h' b
theorem QB {ty:Nat} {call:Cl} {vals:List V} {t:Tr Obj} {nx:B} {K:KV} {r:R} (hr:∀ n,R.bad n≠r) (h:zO ty T call vals t nx K=r) :
  ∃ id off v sz hi cs,vals=[.ptr id off,v]∧id.get t=some (.blk false sz hi cs)∧∀ K':KV,zO ty T call vals t nx K'=K' .any (id.put t (some (stO sz hi off v cs))) nx:=by
 obtain ⟨p,v,rfl,k1⟩:=lq h (hr _);obtain ⟨id,off,rfl,k2⟩:=jq k1 (hr _);obtain ⟨hb,k3⟩:=aG k2 (hr _);obtain ⟨sz,hi,cs,hg,hfit,h1,k4⟩:=oN k3 (hr _);refine ⟨id,off,v,sz,hi,cs,rfl,hg,fun K'=>?_⟩;show aJ (and (Abs.TE.known (T ty)) (Nat.beq (T ty).size (cellsOf v).length)) (oO id off (cellsOf v) t (fun t'=>K' .any t' nx) (.bad 5)) (.bad 6)=_;rw [aQ,if_pos hb];unfold oO iP;rw [hg];show aJ false (R.bad 5) (aT (off+(cellsOf v).length) fun en=>aJ (and (Nat.ble en sz) (List.all (cellsOf v) one)) (l9 (cellsOf v) cs off fun cs'=>aT (Nat.max hi en) fun hi'=>id.jv t (some (.blk false sz hi' cs')) fun t'=>K' .any t' nx) (.bad 5))=_;rw [aQ,if_neg (by simp),aI,aQ,if_pos (by rw [aY.2 hfit,h1];rfl),dS,aI,B.eu];rfl
theorem aer (hT:TOK P T) {o:Oper} {ty:Nat} {x y:Operand} (ho:o.op = .store ty x y) {call:Cl} (hc:jd P T w0 ng call) {vals:List V} {t:Tr Obj} {nx:B} {K:KV} {r:R} (hr:∀ n,R.bad n≠r) (h:opH o.op ng T call vals t nx K=r) :
  ∃ v t' nx',K v t' nx'=r∧OpT P T w0 ng o vals t nx v t' nx'∧∃ id off v sz hi cs,vals=[.ptr id off,v]∧id.get t=some (.blk false sz hi cs)∧(t',nx')=(id.put t (some (stO sz hi off v cs)),nx):=by
 have h':zO ty T call vals t nx K=r:=by rw [ho] at h;exact h
 obtain ⟨id,off,v,sz,hi,cs,e1,e2,e3⟩:=QB hr h';have k1:opH o.op ng T call vals t nx (fun _ t nx => .ok .nrm .lf t nx) = .ok .nrm .lf (id.put t (some (stO sz hi off v cs))) nx:=by
  have:=e3 (fun _ t nx => .ok .nrm .lf t nx);rw [ho];exact this
 obtain ⟨v',t',nx',k2,k3⟩:=EG (P:=P) (w0:=w0) hT o call hc _ _ _ _ _ (fun n=>agA) k1;cases k2;have k4:K .any (id.put t (some (stO sz hi off v cs))) nx=r:=by rw [← h',e3]
 refine ⟨.any,_,_,k4,fun g hp a w g1 g2 g3 K' Q hk=>?_,id,off,v,sz,hi,cs,e1,e2,rfl⟩;exact k3 g hp a w g1 g2 g3 K' Q fun g' hp' u w' st _=>hk g' hp' u w' st (.any _)
def agK (all:List Oper) (it:DI):Prop:=∀ o,all[it.k]?=some o→(it.cl=0→isQ o.op=true)∧(it.cl=1→Qv o.op=true)
theorem sK (hT:TOK P T) {call:Cl} (hc:jd P T w0 ng call) {all:List Oper} {K:Tr V→Tr Obj→B→List (Tr Obj×B)→R} {r:R} (hr:∀ n,R.bad n≠r):∀ {its:List DI} {env:Tr V} {t:Tr Obj} {nx:B} {hs:List (Tr Obj×B)},(∀ it∈its,agK all it) →
  G5 its all T call ng env t nx hs K=r→∃ (E:Nat→Tr V) (H:Nat→Tr Obj×B) (hn:Nat→List (Tr Obj×B)) (b:Nat→Bool) (v:Nat→V),E 0=env∧H 0=(t,nx)∧hn 0=hs∧K (E its.length) (H its.length).1 (H its.length).2 (hn its.length)=r ∧
   ∀ (p:Nat) it,its[p]?=some it→Jl P T w0 ng all it (E p) (E (p+1)) (H p) (H (p+1)) (hn p) (hn (p+1)) (b p) (v p)
 | [],env,t,nx,hs,_,h=>⟨fun _=>env,fun _=>(t,nx),fun _=>hs,fun _=>true,fun _ => .undef,rfl,rfl,rfl,h,fun p x hx=>by simp at hx⟩
 | it::its,env,t,nx,hs,hone,h=>by
   have hx:=hone it (by simp);have hrest:∀ it∈its,agK all it:=fun i hi=>hone i (by simp [hi])
   have go:∀ (env1:Tr V) (t1:Tr Obj) (nx1:B) (hs1:List (Tr Obj×B)) (b1:Bool) (v1:V),G5 its all T call ng env1 t1 nx1 hs1 K=r→Jl P T w0 ng all it env env1 (t,nx) (t1,nx1) hs hs1 b1 v1 →
     ∃ (E:Nat→Tr V) (H:Nat→Tr Obj×B) (hn:Nat→List (Tr Obj×B)) (b:Nat→Bool) (v:Nat→V),E 0=env∧H 0=(t,nx)∧hn 0=hs∧K (E (its.length+1)) (H (its.length+1)).1 (H (its.length+1)).2 (hn (its.length+1))=r ∧
       ∀ (p:Nat) x,(it::its)[p]?=some x→Jl P T w0 ng all x (E p) (E (p+1)) (H p) (H (p+1)) (hn p) (hn (p+1)) (b p) (v p):=fun env1 t1 nx1 hs1 b1 v1 hrun hf=>by
    obtain ⟨E,H,hn,b,v,e1,e2,e3,e4,e5⟩:=sK hT hc hr hrest hrun;refine ⟨qU env E,qU (t,nx) H,qU hs hn,qU b1 b,qU v1 v,rfl,rfl,rfl,e4,fun p x hxp=>?_⟩;cases p with
    | zero=>
      simp at hxp;subst hxp;show Jl P T w0 ng all _ env (E 0) (t,nx) (H 0) hs (hn 0) b1 v1;rw [e1,e2,e3];exact hf
    | succ p=>exact e5 p x (by simpa using hxp)
   cases it with
   | q k back=>
     obtain ⟨o',q1,q2⟩:=kX (show lK k all _ _=r from h) (hr _);have hq:isQ o'.op=true:=(hx o' q1).1 rfl;obtain ⟨b,hw,h1,h2⟩:=jU hr q2;cases b with
     | false=>exact go _ _ _ _ false .undef (h2 rfl) ⟨o',⟨q1,hw,rfl,fun _=>⟨rfl,rfl⟩,rfl,fun e=>(by cases e),fun e=>(by cases e),fun e=>(by cases e)⟩,fun e=>(by cases e)⟩
     | true=>
       obtain ⟨v,k1,k2⟩:=Jd (aaf (P:=P) (w0:=w0) (ng:=ng) hT o' hq) hc hr (h1 rfl);exact go _ _ _ _ true v k1 ⟨o',⟨q1,hw,rfl,fun e=>(by cases e),rfl,fun _ _=>⟨rfl,k2⟩,fun _ e=>(by cases e),fun _ e=>(by cases e)⟩,fun e=>(by cases e)⟩
   | z k=>
     obtain ⟨o',q1,q2⟩:=kX (show lK k all _ _=r from h) (hr _);have hz:Qv o'.op=true:=(hx o' q1).2 rfl;obtain ⟨b,hw,h1,h2⟩:=jU hr q2;cases b with
     | false=>exact go _ _ _ _ false .undef (h2 rfl) ⟨o',⟨q1,hw,rfl,fun _=>⟨rfl,rfl⟩,rfl,fun e=>(by cases e),fun e=>(by cases e),fun e=>(by cases e)⟩,fun e=>(by cases e)⟩
     | true=>
       obtain ⟨v,t1,nx1,k1,k2⟩:=TB (P:=P) (w0:=w0) hT o' hz hr (h1 rfl);exact go _ _ _ _ true v k1 ⟨o',⟨q1,hw,rfl,fun e=>(by cases e),rfl,fun _ e=>(by cases e),fun _ _=>k2,fun _ e=>(by cases e)⟩,fun e=>(by cases e)⟩
   | c k=>
     obtain ⟨o',q1,q2⟩:=kX (show lK k all _ _=r from h) (hr _);obtain ⟨b,hw,h1,h2⟩:=jU hr q2;cases b with
     | false=>exact go _ _ _ _ false .undef (h2 rfl) ⟨o',⟨q1,hw,rfl,fun _=>⟨rfl,rfl⟩,rfl,fun e=>(by cases e),fun e=>(by cases e),fun e=>(by cases e)⟩,fun _ e=>(by cases e)⟩
     | true=>
       by_cases hst:∃ ty x y,o'.op = .store ty x y
       ·obtain ⟨ty,x,y,ho⟩:=hst;obtain ⟨v,t1,nx1,k1,k2,k3⟩:=aer (P:=P) (w0:=w0) hT ho hc hr (h1 rfl);exact go _ _ _ _ true v k1 ⟨o',⟨q1,hw,rfl,fun e=>(by cases e),rfl,fun _ e=>(by cases e),fun _ e=>(by cases e),fun _ _=>k2⟩,fun _ _ _ _ _ _=>k3⟩
       ·obtain ⟨v,t1,nx1,k1,k2⟩:=EG (P:=P) (w0:=w0) hT o' call hc _ _ _ _ r hr (h1 rfl);exact go _ _ _ _ true v k1 ⟨o',⟨q1,hw,rfl,fun e=>(by cases e),rfl,fun _ e=>(by cases e),fun _ e=>(by cases e),fun _ _=>k2⟩,fun _ _ ty x y ho=>absurd ⟨ty,x,y,ho⟩ hst⟩
   | f m n a b=>exact absurd h (hr _)
end
def dN:List DI→List Nat
 | []=>[]
 | .c k::l=>k::dN l
 | .q _ _::l=>dN l
 | .z _::l=>dN l
 | .f _ _ _ _::l=>dN l
def noZ (l:List DI):Bool:=l.all fun it=>match it with | .q _ _=>true | .c _=>true | _=>false
def Ju (ops:List Oper) (k:Nat):Bool:=match ops[k]? with
 | some o=>o.guard.isNone&&(o.dst.isNone&&(match o.op with | .store _ _ _=>true | _=>false))
 | none=>false
def noW (ops:List Oper) (ts:List Nat) (l:List DI):Bool:=l.all fun j=>match ops[j.k]? with | some oj=>!(Qw oj.dst ts) | none=>false
def PU (ops:List Oper):List DI→Bool
 | []=>true
 | it::l=>(match it with | .c k=>(match ops[k]? with | some o=>noW ops (tmpsOf (bJ o.op)) l | none=>false) | _=>true)&&PU ops l
def two (a b:Nat):List Nat→Bool
 | [x,y]=>Nat.beq x a&&Nat.beq y b
 | _=>false
def KR (ops:List Oper) (m n a b:Nat) (rest:List DI):Bool:=
 (!(Nat.beq a b)&&(Ju ops a&&Ju ops b))&&((noZ ((rest.drop m).take n)&&noZ ((rest.drop m).drop n))&&((two a b (dN ((rest.drop m).take n))&&two b a (dN ((rest.drop m).drop n))) &&
  ((PU ops ((rest.drop m).take n)&&PU ops ((rest.drop m).drop n))&&(rO (gu ops b a) (rest.take m++(rest.drop m).take n)&&rO (gu ops a b) (rest.take m++(rest.drop m).drop n)))))
def Ve (ops:List Oper) (its:List DI):Bool:=match its with
 | .f m n a b::rest=>KR ops m n a b rest
 | its=>rO ops its
def glue {α:Type} (n:Nat) (f g:Nat→α):Nat→α:=fun p=>if p<n then f p else g (p-n)
theorem fP {α:Type} {n:Nat} {f g:Nat→α} (h:g 0=f n) {p:Nat} (hp:p≤n):glue n f g p=f p:=by
 unfold glue;split
 ·rfl
 ·have:p=n:=by omega
  subst this;rw [Nat.sub_self,h]
theorem ig {α:Type} {n:Nat} {f g:Nat→α} {p:Nat} (hp:n≤p):glue n f g p=g (p-n):=by
 unfold glue;rw [if_neg (by omega)]
theorem mD {all:List Oper} {ms:List Nat}:∀ {its:List DI} {rs:List Rec},recs all ms its=some rs→rs.length=its.length∧∀ (p:Nat) x,rs[p]?=some x→∃ it,its[p]?=some it∧x.k=it.k∧x.cl=it.cl∧x.back=it.back∧all[it.k]?=some x.o∧ms[it.k]?=some x.mask∧x.looks=iQ all x.o
 | [],rs,h=>by simp [recs] at h;subst h;exact ⟨rfl,fun p x hx=>by simp at hx⟩
 | it::its,rs,h=>by
   unfold recs at h;split at h
   case h_2=>cases h
   rename_i o m r' ho hm hr';simp at h;subst h;obtain ⟨h1,h2⟩:=mD hr';refine ⟨by simp [h1],fun p x hx=>?_⟩;cases p with
   | zero=>simp at hx;subst hx;exact ⟨it,rfl,rfl,rfl,rfl,ho,hm,rfl⟩
   | succ p=>exact h2 p x (by simpa using hx)
theorem zl:∀ {rs:List Rec},iw rs=true→∀ (p:Nat) x,rs[p]?=some x→(x.cl=0→isQ x.o.op=true)∧(x.cl=1→Qv x.o.op=true)
 | [],_,p,x,h=>by simp at h
 | z::rs,h,p,x,hx=>by
   simp only [iw,Bool.and_eq_true] at h;cases p with
   | zero=>
     simp at hx;subst hx;have h1:=h.1;unfold zn at h1;refine ⟨fun hc=>by rw [hc] at h1;exact h1,fun hc=>?_⟩;rw [hc] at h1;simp only [Bool.and_eq_true] at h1;exact h1.1.1
   | succ p=>exact zl h.2 p x (by simpa using hx)
theorem wW {ops:List Oper} {its:List DI} (h:rO ops its=true):∃ ms rs,pR ops ms∧recs ops ms its=some rs∧Jg rF rs=true∧iw rs=true∧backOk [] rs=true∧yu ops.length rs=true:=by
 unfold rO at h;split at h
 case h_2=>cases h
 rename_i ms hms;split at h
 case h_2=>cases h
 rename_i rs hrs;simp only [Bool.and_eq_true] at h;obtain ⟨⟨⟨h1,h2⟩,h3⟩,h4⟩:=h;exact ⟨ms,rs,CO hms,hrs,h1,h2,h3,h4⟩
theorem NQ {ops:List Oper} {b a:Nat} {ms:List Nat} {its:List DI} {rs:List Rec} (hrs:recs (gu ops b a) ms its=some rs) (h1:iw rs=true):∀ it∈its,agK ops it:=fun it hit o ho=>by
 obtain ⟨h2,h3⟩:=mD hrs;obtain ⟨p,hp⟩:=List.getElem?_of_mem hit;have hlt:p<rs.length:=by rw [h2];exact (List.getElem?_eq_some_iff.1 hp).1
 obtain ⟨it',e1,e2,e3,e4,e5,e6,e7⟩:=h3 p _ (List.getElem?_eq_getElem hlt);rw [hp] at e1;cases e1;have h4:=zl h1 p _ (List.getElem?_eq_getElem hlt);rw [kH,ho] at e5;simp at e5;have e8:rs[p].o.op=o.op:=by rw [← e5];split<;>rfl
 rw [e3,e8] at h4;exact h4
section
variable {P:Program} {T:Nat→TE} {w0:World} {ng nt:Nat}
theorem pK.gu {ops:List Oper} {b a:Nat} {x:Rec} {o:Oper} (hx:(gu ops b a)[x.k]?=some x.o) (ho:ops[x.k]?=some o) {env env':Tr V} {h h':Tr Obj×B} {hs hs':List (Tr Obj×B)} {c:Bool} {v:V}
  (hf:pK P T w0 ng ops ⟨x.k,x.cl,x.back,o,[],0⟩ env env' h h' hs hs' c v):pK P T w0 ng (Go.Sim.gu ops b a) x env env' h h' hs hs' c v:=by
 have e5:=hx;rw [kH,ho] at e5;simp at e5;have wd:∀ o':Oper,o'.guard=o.guard→Wd (Go.Sim.gu ops b a) ng env o' c:=fun o' hg=>by
  have:=hf.wd;unfold Wd at this ⊢;simp only at this;rw [hg];cases hgd:o.guard with
  | none=>rw [hgd] at this;exact this
  | some p=>
    rw [hgd] at this;obtain ⟨oj,d,h1,h2,h3⟩:=this;refine ⟨if p.1=b then WH a oj else oj,d,by rw [kH,h1];rfl,?_,h3⟩;split<;>exact h2
 by_cases e:x.k=b
 ·rw [if_pos e] at e5;obtain ⟨k,cl,back,xo,looks,mask⟩:=x;dsimp only at *;subst e5;exact ⟨hx,wd _ rfl,hf.en,hf.no,hf.hh,hf.q,hf.z,hf.c⟩
 ·rw [if_neg e] at e5;obtain ⟨k,cl,back,xo,looks,mask⟩:=x;dsimp only at *;subst e5;exact ⟨hx,wd _ rfl,hf.en,hf.no,hf.hh,hf.q,hf.z,hf.c⟩
def Trc (P:Program) (T:Nat→TE) (w0:World) (ng:Nat) (ops:List Oper) (its:List DI) (E:Nat→Tr V) (H:Nat→Tr Obj×B) (hn:Nat→List (Tr Obj×B)) (b:Nat→Bool) (v:Nat→V):Prop:=
 ∀ (p:Nat) it,its[p]?=some it→Jl P T w0 ng ops it (E p) (E (p+1)) (H p) (H (p+1)) (hn p) (hn (p+1)) (b p) (v p)
theorem Trc.glue {ops:List Oper} {l1 l2:List DI} {E E':Nat→Tr V} {H H':Nat→Tr Obj×B} {hn hn':Nat→List (Tr Obj×B)} {b b':Nat→Bool} {v v':Nat→V} (h1:Trc P T w0 ng ops l1 E H hn b v) (h2:Trc P T w0 ng ops l2 E' H' hn' b' v')
  (e1:E' 0=E l1.length) (e2:H' 0=H l1.length) (e3:hn' 0=hn l1.length) :
  Trc P T w0 ng ops (l1++l2) (Go.Sim.glue l1.length E E') (Go.Sim.glue l1.length H H') (Go.Sim.glue l1.length hn hn') (Go.Sim.glue l1.length b b') (Go.Sim.glue l1.length v v'):=fun p it hp=>by
 rcases Nat.lt_or_ge p l1.length with h | h
 ·rw [List.getElem?_append_left h] at hp;rw [fP e1 (by omega),fP e1 (by omega),fP e2 (by omega),fP e2 (by omega),fP e3 (by omega),fP e3 (by omega)];have:=h1 p it hp;unfold Go.Sim.glue;rw [if_pos h,if_pos h];exact this
 ·rw [List.getElem?_append_right h] at hp;have:=h2 _ it hp;rw [ig h,ig (f:=E) (show l1.length≤p+1 by omega),ig h,ig (f:=H) (show l1.length≤p+1 by omega),ig h,ig (f:=hn) (show l1.length≤p+1 by omega),ig h,ig h,show p+1-l1.length=p-l1.length+1 by omega];exact this
theorem Trc.can {ops:List Oper} {b0 a0:Nat} {its:List DI} {ms:List Nat} {rs:List Rec} {E:Nat→Tr V} {H:Nat→Tr Obj×B} {hn:Nat→List (Tr Obj×B)} {b:Nat→Bool} {v:Nat→V} (ht:Trc P T w0 ng ops its E H hn b v)
  (hd:∀ o∈ops,∀ d,o.dst=some d→d<nt) (hms:pR (Go.Sim.gu ops b0 a0) ms) (hrs:recs (Go.Sim.gu ops b0 a0) ms its=some rs) (h1:Jg rF rs=true) (h2:iw rs=true) (h3:backOk [] rs=true) (h4:yu (Go.Sim.gu ops b0 a0).length rs=true) (e3:hn 0=[H 0]) :
  Can P T w0 ng nt (Go.Sim.gu ops b0 a0) ms rs E H hn b v:=by
 refine Ws (fun o ho d hdd=>?_) hms hrs h1 h2 h3 h4 e3 fun p x hx=>?_
 ·obtain ⟨i,hi⟩:=List.getElem?_of_mem ho;rw [kH] at hi;cases hk:ops[i]? with
  | none=>rw [hk] at hi;cases hi
  | some o'=>
    rw [hk] at hi;simp at hi;refine hd o' (List.mem_of_getElem? hk) d ?_;rw [← hi] at hdd;split at hdd<;>exact hdd
 ·obtain ⟨it,e1,e2,e3,e4,e5,e6,e7⟩:=(mD hrs).2 p x hx;rw [← e2] at e5 e6;refine ⟨e6,e7,?_⟩;obtain ⟨o,hf,_⟩:=ht p it e1;have ho:ops[x.k]?=some o:=by rw [e2];exact hf.at_
  exact pK.gu e5 ho (by rw [e2,e3,e4];exact hf)
theorem Trc.keep {ops:List Oper} {its:List DI} {E:Nat→Tr V} {H:Nat→Tr Obj×B} {hn:Nat→List (Tr Obj×B)} {b:Nat→Bool} {v:Nat→V} (ht:Trc P T w0 ng ops its E H hn b v) {t i:Nat} (j:Nat):i≤j→j≤its.length →
  (∀ (q:Nat) it o,i≤q→q<j→its[q]?=some it→ops[it.k]?=some o→o.dst≠some t)→(bOf t).get (E j)=(bOf t).get (E i):=by
 induction j with
 | zero=>intro h1 _ _;have:i=0:=by omega
         subst this;rfl
 | succ j ih=>
   intro h1 h2 h3;rcases Nat.lt_or_ge j i with h | h
   ·have:i=j+1:=(by omega);subst this;rfl
   ·have hj:j<its.length:=(by omega);obtain ⟨o,hf,_⟩:=ht j _ (List.getElem?_eq_getElem hj);rw [hf.en,← ih h (by omega) fun q it o hq hq'=>h3 q it o hq (by omega)];have hne:=h3 j _ o h (by omega) (List.getElem?_eq_getElem hj) hf.at_;unfold qN;cases hd:o.dst with
    | none=>simp only [hd]
    | some d=>
      simp only [hd];rw [B.get_put,if_neg];intro e;have:=lF e;subst this;exact hne hd
theorem Trc.heap {ops:List Oper} {its:List DI} {E:Nat→Tr V} {H:Nat→Tr Obj×B} {hn:Nat→List (Tr Obj×B)} {b:Nat→Bool} {v:Nat→V} (ht:Trc P T w0 ng ops its E H hn b v) {i:Nat} (j:Nat):i≤j→j≤its.length →
  (∀ (q:Nat) it,i≤q→q<j→its[q]?=some it→it.cl=0)→H j=H i:=by
 induction j with
 | zero=>intro h1 _ _;have:i=0:=by omega
         subst this;rfl
 | succ j ih=>
   intro h1 h2 h3;rcases Nat.lt_or_ge j i with h | h
   ·have:i=j+1:=(by omega);subst this;rfl
   ·have hj:j<its.length:=(by omega);obtain ⟨o,hf,_⟩:=ht j _ (List.getElem?_eq_getElem hj);rw [← ih h (by omega) fun q it hq hq'=>h3 q it hq (by omega)];cases hb:b j with
    | false=>exact (hf.no hb).2
    | true=>exact (hf.q hb (h3 j _ h (by omega) (List.getElem?_eq_getElem hj))).1
end
theorem wz:∀ {l:List DI} {k:Nat} {ks:List Nat},noZ l=true→dN l=k::ks→∃ p,l[p]?=some (.c k)∧(∀ (q:Nat) it,q<p→l[q]?=some it→it.cl=0)∧dN (l.drop (p+1))=ks∧noZ (l.drop (p+1))=true
 | [],k,ks,_,h=>by simp [dN] at h
 | .c j::l,k,ks,hz,h=>by
   simp only [dN,List.cons.injEq] at h;obtain ⟨rfl,rfl⟩:=h;refine ⟨0,rfl,fun q it hq=>by omega,rfl,?_⟩;simp [noZ] at hz ⊢;exact hz
 | .q j b::l,k,ks,hz,h=>by
   obtain ⟨p,h1,h2,h3,h4⟩:=wz (l:=l) (by simp [noZ] at hz ⊢;exact hz) (show dN l=k::ks from h);refine ⟨p+1,h1,fun q it hq hi=>?_,h3,h4⟩;cases q with
   | zero=>simp at hi;subst hi;rfl
   | succ q=>exact h2 q it (by omega) (by simpa using hi)
 | .z j::l,k,ks,hz,h=>by simp [noZ] at hz
 | .f _ _ _ _::l,k,ks,hz,h=>by simp [noZ] at hz
theorem wX:∀ {l:List DI} {p k:Nat},l[p]?=some (.c k)→k∈dN l
 | [],p,k,h=>by simp at h
 | z::l,p,k,h=>by
   cases p with
   | zero=>simp at h;subst h;simp [dN]
   | succ p=>
     have:=wX (l:=l) (by simpa using h);cases z<;>simp [dN,this]
theorem Aj:∀ {l:List DI},noZ l=true→dN l=[]→∀ (q:Nat) it,l[q]?=some it→it.cl=0
 | [],_,_,q,it,hi=>by simp at hi
 | .c j::l,_,h,q,it,hi=>by simp [dN] at h
 | .q j b::l,hz,h,q,it,hi=>by
   cases q with
   | zero=>simp at hi;subst hi;rfl
   | succ q=>exact Aj (l:=l) (by simp [noZ] at hz ⊢;exact hz) h q it (by simpa using hi)
 | .z j::l,hz,h,q,it,hi=>by simp [noZ] at hz
 | .f _ _ _ _::l,hz,h,q,it,hi=>by simp [noZ] at hz
theorem BA {ops:List Oper}:∀ {l:List DI},PU ops l=true→∀ (p:Nat) k o,l[p]?=some (.c k)→ops[k]?=some o→∀ (q:Nat) it oj,p<q→l[q]?=some it→ops[it.k]?=some oj→∀ t,t∈tmpsOf (bJ o.op)→oj.dst≠some t
 | [],_,p,k,o,h,_,_,_,_,_,_,_,_,_=>by simp at h
 | z::l,hs,p,k,o,hp,ho,q,it,oj,hpq,hq,hoj,t,ht=>fun hd=>by
   simp only [PU,Bool.and_eq_true] at hs;cases q with
   | zero=>omega
   | succ q=>
     cases p with
     | zero=>
       simp at hp;subst hp;have h1:=hs.1;simp only [ho,noW] at h1;have:=List.all_eq_true.1 h1 it (List.mem_of_getElem? (show l[q]?=some it by simpa using hq));rw [hoj] at this;simp only [Bool.not_eq_true'] at this;rw [zM.2 ⟨t,hd,ht⟩] at this;cases this
     | succ p=>exact BA hs.2 p k o (by simpa using hp) ho q it oj (by omega) (by simpa using hq) hoj t ht hd
theorem GI {a b:Nat} {l:List Nat} (h:two a b l=true):l=[a,b]:=by
 unfold two at h;split at h
 ·simp only [Bool.and_eq_true] at h;rw [beq_iff.1 h.1,beq_iff.1 h.2]
 ·cases h
theorem l7 {ops:List Oper} {k:Nat} (h:Ju ops k=true):∃ o ty x y,ops[k]?=some o∧o.guard=none∧o.dst=none∧o.op = .store ty x y:=by
 unfold Ju at h;split at h
 case h_2=>cases h
 rename_i o ho;simp only [Bool.and_eq_true] at h;obtain ⟨h1,h2,h3⟩:=h;split at h3
 case h_2=>cases h3
 rename_i ty x y hop;exact ⟨o,ty,x,y,ho,by simpa using h1,by simpa using h2,hop⟩
theorem QJ {a b:Option V} (h:afp a b=true):a=b:=by
 cases a<;>cases b<;>first | rfl | cases h | (rw [I7 h])
theorem rV {all:List Oper} {e1 e2:Tr V}:∀ {l:List DI},agree all l e1 e2=true→∀ it∈l,∀ o,all[it.k]?=some o→∀ d,o.dst=some d→(bOf d).get e1=(bOf d).get e2
 | [],_,it,h,_,_,_,_=>by cases h
 | z::l,h,it,hi,o,ho,d,hd=>by
   obtain ⟨h1,h2⟩:=aB (show and (match all[z.k]? with | some o=>(match o.dst with | some d=>afp ((bOf d).get e1) ((bOf d).get e2) | none=>true) | none=>false) (agree all l e1 e2)=true from h);rcases List.mem_cons.1 hi with rfl | hi
   ·rw [ho] at h1;simp only [hd] at h1;exact QJ h1
   ·exact rV h2 it hi o ho d hd
section
variable {P:Program} {T:Nat→TE} {w0:World} {ng nt:Nat}
theorem Step.congr {g g':Gh} {hp hp':B→Option Obj} {t t' t'':Tr Obj} {nx nx':B} {w w':World} (h:Step T w0 ng g hp t nx w g' hp' t' nx' w') (he:∀ id:B,id.get t''=id.get t'):Step T w0 ng g hp t nx w g' hp' t'' nx' w':=
 ⟨h.ext,h.le,h.hr,fun id o ho=>h.sub id o (by rw [← he];exact ho),h.fr,fun id h1 h2=>by rw [he];exact h.dm id h1 h2,h.sz,h.dr,h.un,fun id o h1 h2=>h.pl id o (by rw [← he];exact h1) h2,h.pl2⟩
theorem Trc.two {ops:List Oper} {l:List DI} {E:Nat→Tr V} {H:Nat→Tr Obj×B} {hn:Nat→List (Tr Obj×B)} {bb:Nat→Bool} {v:Nat→V} (ht:Trc P T w0 ng ops l E H hn bb v) {a b:Nat} (hz:noZ l=true) (hc:dN l=[a,b]) (hs:PU ops l=true)
  (ha:Ju ops a=true) (hb:Ju ops b=true):∃ oa ob ida offa va sza hia csa idb offb vb szb hib csb,ops[a]?=some oa∧ops[b]?=some ob ∧
   (bJ oa.op).map (opV ng (E l.length))=[.ptr ida offa,va]∧(bJ ob.op).map (opV ng (E l.length))=[.ptr idb offb,vb] ∧
   ida.get (H 0).1=some (.blk false sza hia csa)∧idb.get (ida.put (H 0).1 (some (stO sza hia offa va csa)))=some (.blk false szb hib csb) ∧
   H l.length=(idb.put (ida.put (H 0).1 (some (stO sza hia offa va csa))) (some (stO szb hib offb vb csb)),(H 0).2):=by
 obtain ⟨oa,tya,xa,ya,a1,a2,a3,a4⟩:=l7 ha;obtain ⟨ob,tyb,xb,yb,b1,b2,b3,b4⟩:=l7 hb;obtain ⟨pa,p1,p2,p3,p4⟩:=wz hz hc;obtain ⟨q,q1,q2,q3,q4⟩:=wz p4 p3;rw [List.getElem?_drop] at q1;have hpa:pa<l.length:=(List.getElem?_eq_some_iff.1 p1).1;have hpb:pa+1+q<l.length:=(List.getElem?_eq_some_iff.1 q1).1;have ops_at:∀ (o:Oper) (k p:Nat),l[p]?=some (.c k)→ops[k]?=some o→∀ x∈bJ o.op,opV ng (E l.length) x=opV ng (E p) x:=fun o k p hp ho x hx=>by
  cases x with
  | tmp t=>
    simp only [opV];have hpl:p<l.length:=(List.getElem?_eq_some_iff.1 hp).1;have:=ht.keep (t:=t) (i:=p) l.length (by omega) (Nat.le_refl _) fun j it oj hj hj' hit hoj=>by
     rcases Nat.lt_or_ge p j with h | h
     ·exact BA hs p k o hp ho j it oj h hit hoj t (rG hx)
     ·have:j=p:=(by omega);subst this;rw [hp] at hit;cases hit;rw [show (DI.c k).k=k from rfl,ho] at hoj;cases hoj
      obtain ⟨o',ty,x',y',c1,c2,c3,c4⟩:=l7 (show Ju ops k=true by
       have hk:k∈dN l:=wX hp;rw [hc] at hk;simp at hk;rcases hk with rfl | rfl
       ·exact ha
       ·exact hb)
      rw [ho] at c1;cases c1;rw [c3];simp
    rw [this]
  | const v=>rfl
  | global g=>rfl
  | func f=>rfl
 have map_at:∀ (o:Oper) (k p:Nat),l[p]?=some (.c k)→ops[k]?=some o→(bJ o.op).map (opV ng (E l.length))=(bJ o.op).map (opV ng (E p)):=fun o k p hp ho=>List.map_congr_left (ops_at o k p hp ho)
 have on:∀ (o:Oper) (k p:Nat),l[p]?=some (.c k)→ops[k]?=some o→o.guard=none→(∃ ty x y,o.op = .store ty x y) →
   ∃ id off v sz hi cs,(bJ o.op).map (opV ng (E p))=[.ptr id off,v]∧id.get (H p).1=some (.blk false sz hi cs)∧H (p+1)=(id.put (H p).1 (some (stO sz hi off v cs)),(H p).2):=fun o k p hp ho hg ⟨ty,x,y,hst⟩=>by
  obtain ⟨o',hf,hsf⟩:=ht p _ hp;have:o'=o:=by have:=hf.at_;rw [show (DI.c k).k=k from rfl] at this;simp only at this;rw [ho] at this;cases this;rfl
  subst this;have hbt:bb p=true:=by
   have:=hf.wd;unfold Wd at this;simp only [hg] at this;exact this
  exact hsf rfl hbt ty x y hst
 obtain ⟨ida,offa,va,sza,hia,csa,r1,r2,r3⟩:=on oa a pa p1 a1 a2 ⟨tya,xa,ya,a4⟩;obtain ⟨idb,offb,vb,szb,hib,csb,s1,s2,s3⟩:=on ob b (pa+1+q) q1 b1 b2 ⟨tyb,xb,yb,b4⟩;have h0:H pa=H 0:=ht.heap pa (Nat.zero_le _) (by omega) fun j it _ hj hit=>p2 j it hj hit
 have h1:H (pa+1+q)=H (pa+1):=ht.heap (pa+1+q) (by omega) (by omega) fun j it hj hj' hit=>q2 (j-(pa+1)) it (by omega) (by rw [List.getElem?_drop,show pa+1+(j-(pa+1))=j by omega];exact hit)
 have h2:H l.length=H (pa+1+q+1):=ht.heap l.length (by omega) (Nat.le_refl _) fun j it hj hj' hit=>Aj q4 q3 (j-(pa+1+q+1)) it (by
  rw [List.getElem?_drop,List.getElem?_drop,show pa+1+(q+1+(j-(pa+1+q+1)))=j by omega];exact hit)
 refine ⟨oa,ob,ida,offa,va,sza,hia,csa,idb,offb,vb,szb,hib,csb,a1,b1,by rw [map_at oa a pa p1 a1];exact r1,by rw [map_at ob b _ q1 b1];exact s1,by rw [← h0];exact r2,?_,?_⟩
 ·rw [h1,r3,h0] at s2;exact s2
 ·rw [h2,s3,h1,r3,h0]
theorem QF (hT:TOK P T) (hm:P.follows .mixedOrders=true) {ops:List Oper} {m n a b:Nat} {rest:List DI} (hd:∀ o∈ops,∀ d,o.dst=some d→d<nt) (h:KR ops m n a b rest=true):Xe P T w0 ng nt (.f m n a b::rest) ops:=by
 unfold KR at h;generalize hpre:rest.take m=pre at h;generalize hl1:(rest.drop m).take n=l1 at h;generalize hl2:(rest.drop m).drop n=l2 at h;simp only [Bool.and_eq_true,Bool.not_eq_true'] at h;obtain ⟨⟨hab,ha,hb⟩,⟨hz1,hz2⟩,⟨hc1,hc2⟩,⟨hs1,hs2⟩,hd1,hd2⟩:=h;have hab:a≠b:=fun e=>by subst e;rw [Nat.beq_refl] at hab;cases hab
 have hc1:=GI hc1;have hc2:=GI hc2;obtain ⟨ms1,rs1,u1,u2,u3,u4,u5,u6⟩:=wW hd1;obtain ⟨ms2,rs2,v1,v2,v3,v4,v5,v6⟩:=wW hd2;intro call hc env t nx K r hr hrun;have it1:=NQ u2 u4;have it2:=NQ v2 v4;have hrun:Xo m n a b rest ops T call ng env t nx K=r:=hrun;unfold Xo at hrun;rw [hpre,hl1,hl2] at hrun;obtain ⟨Ep,Hp,np,bp,vp,ep1,ep2,ep3,ep4,ep5⟩:=sK (P:=P) (w0:=w0) hT hc hr (fun it hi=>it1 it (by simp [hi])) hrun;obtain ⟨E1,H1,n1,b1,w1,f1,f2,f3,f4,f5⟩:=sK (P:=P) (w0:=w0) hT hc hr (fun it hi=>it1 it (by simp [hi])) ep4;obtain ⟨E2,H2,n2,b2,w2,k1,k2,k3,k4,k5⟩:=sK (P:=P) (w0:=w0) hT hc hr (fun it hi=>it2 it (by simp [hi])) f4;obtain ⟨hchk,hK⟩:=aG k4 (hr _);obtain ⟨g1,hchk⟩:=aB hchk;obtain ⟨g2,g3⟩:=aB hchk;have henv:∀ t,(bOf t).get (E1 l1.length)=(bOf t).get (E2 l2.length):=fun τ=>by
  by_cases e1:∃ it∈l1,∃ o,ops[it.k]?=some o∧o.dst=some τ
  ·obtain ⟨it,hi,o,ho,hdd⟩:=e1;exact rV g1 it hi o ho τ hdd
  ·by_cases e2:∃ it∈l2,∃ o,ops[it.k]?=some o∧o.dst=some τ
   ·obtain ⟨it,hi,o,ho,hdd⟩:=e2;exact rV g2 it hi o ho τ hdd
   ·have t1:Trc P T w0 ng ops l1 E1 H1 n1 b1 w1:=f5;have t2:Trc P T w0 ng ops l2 E2 H2 n2 b2 w2:=k5
    rw [t1.keep (t:=τ) (i:=0) l1.length (Nat.zero_le _) (Nat.le_refl _) fun q it o _ _ hit ho hdd=>e1 ⟨it,List.mem_of_getElem? hit,o,ho,hdd⟩,
     t2.keep (t:=τ) (i:=0) l2.length (Nat.zero_le _) (Nat.le_refl _) fun q it o _ _ hit ho hdd=>e2 ⟨it,List.mem_of_getElem? hit,o,ho,hdd⟩,f1,k1]
 have hop:∀ x,opV ng (E1 l1.length) x=opV ng (E2 l2.length) x:=fun x=>by
  cases x with
  | tmp t=>simp only [opV];rw [henv]
  | const v=>rfl
  | global g=>rfl
  | func f=>rfl
 obtain ⟨oa,ob,ida,offa,va,sza,hia,csa,idb,offb,vb,szb,hib,csb,x1,x2,x3,x4,x5,x6,x7⟩:=Trc.two (P:=P) (T:=T) (w0:=w0) (ng:=ng) f5 hz1 hc1 hs1 ha hb;obtain ⟨ob',oa',idb',offb',vb',szb',hib',csb',ida',offa',va',sza',hia',csa',y1,y2,y3,y4,y5,y6,y7⟩:=Trc.two (P:=P) (T:=T) (w0:=w0) (ng:=ng) k5 hz2 hc2 hs2 hb ha;rw [x1] at y2;rw [x2] at y1;cases y1;cases y2;have hm1:∀ xs:List Operand,xs.map (opV ng (E1 l1.length))=xs.map (opV ng (E2 l2.length)):=fun xs=>List.map_congr_left fun x _=>hop x
 rw [← hm1,x3] at y4;rw [← hm1,x4] at y3;cases y3;cases y4;have hne:ida≠idb:=by
  intro e;subst e;obtain ⟨_,tya,xa,ya,c1,_,_,c4⟩:=l7 ha;obtain ⟨_,tyb,xb,yb,d1,_,_,d4⟩:=l7 hb;rw [x1] at c1;rw [x2] at d1;cases c1;cases d1;unfold Tj at g3;rw [x1,x2] at g3;simp only [c4,d4,vM] at g3;rw [c4] at x3;rw [d4] at x4;simp only [bJ,List.map_cons,List.map_nil,List.cons.injEq] at x3 x4;rw [x3.1,x4.1] at g3;have g4:(!(Nat.beq ida.n ida.n))=true:=g3;rw [Nat.beq_refl] at g4;cases g4
 have hH0:H1 0=H2 0:=by rw [f2,k2]
 have hget:∀ (i j:B) (tt:Tr Obj) o,B.get i (j.put tt o)=if i=j then o else B.get i tt:=fun i j tt o=>B.get_put j i tt o
 rw [hget,if_neg (fun e=>hne e.symm)] at x6;rw [hget,if_neg hne] at y6;rw [← hH0] at y5 y6 y7;rw [x5] at y6;rw [x6] at y5;cases y5;cases y6;have hheap:∀ id:B,id.get (H1 l1.length).1=id.get (H2 l2.length).1:=fun id=>by
  rw [x7,y7];simp only [hget];by_cases e1:id=ida
  ·rw [if_neg (fun e=>hne (e1 ▸ e)),if_pos e1,if_pos e1]
  ·by_cases e2:id=idb
   ·rw [if_pos e2,if_neg e1,if_pos e2]
   ·rw [if_neg e2,if_neg e1,if_neg e1,if_neg e2]
 have hnx:(H1 l1.length).2=(H2 l2.length).2:=by rw [x7,y7]
 refine ⟨E1 l1.length,(H1 l1.length).1,(H1 l1.length).2,hK,fun id g hp act w q1 q2 q3 Q hQ=>xu hm hab ?_ ?_⟩
 ·have tr:=Trc.glue (P:=P) (T:=T) (w0:=w0) (ng:=ng) ep5 f5 f1 (by rw [f2]) f3;have hC:=tr.can (nt:=nt) hd u1 u2 u3 u4 u5 u6 (by rw [fP f3 (Nat.zero_le _),fP (by rw [f2]) (Nat.zero_le _),ep3,ep2]);have hlen:rs1.length=pre.length+l1.length:=by rw [(mD u2).1,List.length_append]
  refine hC.any (env:=env) (t:=t) (nx:=nx) (by rw [fP f1 (Nat.zero_le _),ep1]) (by rw [fP (by rw [f2]) (Nat.zero_le _),ep2]) q1 q2 q3 fun g' hp' a' w' st har=>?_
  rw [hlen,ig (by omega),show pre.length+l1.length-pre.length=l1.length by omega] at st har;rw [ig (by omega),show pre.length+l1.length-pre.length=l1.length by omega] at har;exact hQ g' hp' a' w' st har
 ·have tr:=Trc.glue (P:=P) (T:=T) (w0:=w0) (ng:=ng) ep5 k5 k1 (by rw [k2]) k3;have hC:=tr.can (nt:=nt) hd v1 v2 v3 v4 v5 v6 (by rw [fP k3 (Nat.zero_le _),fP (by rw [k2]) (Nat.zero_le _),ep3,ep2]);have hlen:rs2.length=pre.length+l2.length:=by rw [(mD v2).1,List.length_append]
  refine hC.any (env:=env) (t:=t) (nx:=nx) (by rw [fP k1 (Nat.zero_le _),ep1]) (by rw [fP (by rw [k2]) (Nat.zero_le _),ep2]) q1 q2 q3 fun g' hp' a' w' st har=>?_
  rw [hlen,ig (by omega),show pre.length+l2.length-pre.length=l2.length by omega] at st har;rw [ig (by omega),show pre.length+l2.length-pre.length=l2.length by omega] at har;rw [← hnx] at st har;exact hQ g' hp' a' w' (st.congr hheap) ⟨har.defers,har.size,fun τ u hu=>har.env τ u (by rw [← henv];exact hu)⟩
theorem Vd (hT:TOK P T) (hm:P.follows .mixedOrders=true) {ops:List Oper} {its:List DI} (hd:∀ o∈ops,∀ d,o.dst=some d→d<nt) (h:Ve ops its=true):Xe P T w0 ng nt its ops:=by
 unfold Ve at h;split at h
 ·exact QF hT hm hd h
 ·rename_i hnf;have:=QM (P:=P) (T:=T) (w0:=w0) (ng:=ng) hT hm hd h;intro call hc env t nx K r hr hrun;refine this call hc env t nx K r hr ?_;unfold aeb at hrun;split at hrun
  ·rename_i m n a b rest;exact absurd rfl (hnf m n a b rest)
  ·exact hrun
end
end Go.Sim
namespace Go.Sim
open Go Go.RowKit
open Go.Abs (TE TK SK TOK TFacts)
noncomputable def Pv (v:V) (K:Bool→R) (e:R):R:=
 V.rec (motive_1:=fun _=>(Bool→R)→R→R) (motive_2:=fun _=>PUnit) (fun x0 K _=>K x0) (fun _ _ _ e=>e) (fun _ _ _ e=>e) (fun _ e=>e) (fun _ _ _ e=>e) (fun _ e=>e) (fun _ e=>e) (fun _ _ _ _ _ _ e=>e) (fun _ e=>e) (fun _ _ e=>e) (fun _ e=>e) (fun _ _ _ _ _ _ e=>e) (fun _ e=>e) (fun _ _ _ _ e=>e) (fun _ _ _ e=>e) (fun _ _ _ e=>e) (fun _ e=>e) (fun _ e=>e) PUnit.unit (fun _ _ _ _=>PUnit.unit) v K e
noncomputable def ahm (v:V) (K:IntKind→Int→R) (e:R):R:=
 V.rec (motive_1:=fun _=>(IntKind→Int→R)→R→R) (motive_2:=fun _=>PUnit) (fun _ _ e=>e) (fun x0 x1 K _=>K x0 x1) (fun _ _ _ e=>e) (fun _ e=>e) (fun _ _ _ e=>e) (fun _ e=>e) (fun _ e=>e) (fun _ _ _ _ _ _ e=>e) (fun _ e=>e) (fun _ _ e=>e) (fun _ e=>e) (fun _ _ _ _ _ _ e=>e) (fun _ e=>e) (fun _ _ _ _ e=>e) (fun _ _ _ e=>e) (fun _ _ _ e=>e) (fun _ e=>e) (fun _ e=>e) PUnit.unit (fun _ _ _ _=>PUnit.unit) v K e
noncomputable def Ee (v:V) (K:Nat→Nat→R) (e:R):R:=
 V.rec (motive_1:=fun _=>(Nat→Nat→R)→R→R) (motive_2:=fun _=>PUnit) (fun _ _ e=>e) (fun _ _ _ e=>e) (fun x0 x1 K _=>K x0 x1) (fun _ e=>e) (fun _ _ _ e=>e) (fun _ e=>e) (fun _ e=>e) (fun _ _ _ _ _ _ e=>e) (fun _ e=>e) (fun _ _ e=>e) (fun _ e=>e) (fun _ _ _ _ _ _ e=>e) (fun _ e=>e) (fun _ _ _ _ e=>e) (fun _ _ _ e=>e) (fun _ _ _ e=>e) (fun _ e=>e) (fun _ e=>e) PUnit.unit (fun _ _ _ _=>PUnit.unit) v K e
noncomputable def AZ (v:V) (K:B→Nat→R) (e:R):R:=
 V.rec (motive_1:=fun _=>(B→Nat→R)→R→R) (motive_2:=fun _=>PUnit) (fun _ _ e=>e) (fun _ _ _ e=>e) (fun _ _ _ e=>e) (fun _ e=>e) (fun x0 x1 K _=>K x0 x1) (fun _ e=>e) (fun _ e=>e) (fun _ _ _ _ _ _ e=>e) (fun _ e=>e) (fun _ _ e=>e) (fun _ e=>e) (fun _ _ _ _ _ _ e=>e) (fun _ e=>e) (fun _ _ _ _ e=>e) (fun _ _ _ e=>e) (fun _ _ _ e=>e) (fun _ e=>e) (fun _ e=>e) PUnit.unit (fun _ _ _ _=>PUnit.unit) v K e
noncomputable def slR (v:V) (K:B→Nat→Nat→Nat→(Option Nat)→R) (e:R):R:=
 V.rec (motive_1:=fun _=>(B→Nat→Nat→Nat→(Option Nat)→R)→R→R) (motive_2:=fun _=>PUnit) (fun _ _ e=>e) (fun _ _ _ e=>e) (fun _ _ _ e=>e) (fun _ e=>e) (fun _ _ _ e=>e) (fun _ e=>e) (fun _ e=>e) (fun x0 x1 x2 x3 x4 K _=>K x0 x1 x2 x3 x4) (fun _ e=>e) (fun _ _ e=>e) (fun _ e=>e) (fun _ _ _ _ _ _ e=>e) (fun _ e=>e) (fun _ _ _ _ e=>e) (fun _ _ _ e=>e) (fun _ _ _ e=>e) (fun _ e=>e) (fun _ e=>e) PUnit.unit (fun _ _ _ _=>PUnit.unit) v K e
noncomputable def adZ (v:V) (K:(List V)→R) (e:R):R:=
 V.rec (motive_1:=fun _=>((List V)→R)→R→R) (motive_2:=fun _=>PUnit) (fun _ _ e=>e) (fun _ _ _ e=>e) (fun _ _ _ e=>e) (fun _ e=>e) (fun _ _ _ e=>e) (fun _ e=>e) (fun _ e=>e) (fun _ _ _ _ _ _ e=>e) (fun _ e=>e) (fun _ _ e=>e) (fun _ e=>e) (fun _ _ _ _ _ _ e=>e) (fun _ e=>e) (fun _ _ _ _ e=>e) (fun _ _ _ e=>e) (fun x0 _ K _=>K x0) (fun _ e=>e) (fun _ e=>e) PUnit.unit (fun _ _ _ _=>PUnit.unit) v K e
noncomputable def KD (v:V) (K:Int→R) (e:R):R:=
 V.rec (motive_1:=fun _=>(Int→R)→R→R) (motive_2:=fun _=>PUnit) (fun _ _ e=>e) (fun x0 x1 K e=>IntKind.rec (motive:=fun _=>Int→(Int→R)→R→R) (fun _ _ e=>e) (fun _ _ e=>e) (fun _ _ e=>e) (fun n K _=>K n) (fun _ _ e=>e) (fun _ _ e=>e) (fun _ _ e=>e) (fun _ _ e=>e) x0 x1 K e) (fun _ _ _ e=>e) (fun _ e=>e) (fun _ _ _ e=>e) (fun _ e=>e) (fun _ e=>e) (fun _ _ _ _ _ _ e=>e) (fun _ e=>e) (fun _ _ e=>e) (fun _ e=>e) (fun _ _ _ _ _ _ e=>e) (fun _ e=>e) (fun _ _ _ _ e=>e) (fun _ _ _ e=>e) (fun _ _ _ e=>e) (fun _ e=>e) (fun _ e=>e) PUnit.unit (fun _ _ _ _=>PUnit.unit) v K e
noncomputable def MI (v:V) (K:V→R) (e:R):R:=
 V.rec (motive_1:=fun _=>(V→R)→R→R) (motive_2:=fun _=>PUnit) (fun x0 K _=>K (.bool x0)) (fun x0 x1 K _=>K (.int x0 x1)) (fun x0 x1 K _=>K (.str x0 x1)) (fun K _=>K (.fC)) (fun x0 x1 K _=>K (.ptr x0 x1)) (fun K _=>K (.aj)) (fun K _=>K (.gq)) (fun x0 x1 x2 x3 x4 K _=>K (.sl x0 x1 x2 x3 x4)) (fun K _=>K (.gU)) (fun x0 K _=>K (.map x0)) (fun K _=>K (.gZ)) (fun x0 x1 x2 _ _ K _=>K (.fn x0 x1 x2)) (fun K _=>K (.iy)) (fun x0 x1 _ K _=>K (.ifc x0 x1)) (fun _ _ _ e=>e) (fun _ _ _ e=>e) (fun _ e=>e) (fun _ e=>e) PUnit.unit (fun _ _ _ _=>PUnit.unit) v K e
theorem WA (v:V) (K:Bool→R) (e:R):Pv v K e=asBool v K e:=by cases v<;>rfl
theorem XU (v:V) (K:IntKind→Int→R) (e:R):ahm v K e=asInt v K e:=by cases v<;>rfl
theorem Xl (v:V) (K:Nat→Nat→R) (e:R):Ee v K e=jo v K e:=by cases v<;>rfl
theorem xX (v:V) (K:B→Nat→R) (e:R):AZ v K e=jr v K e:=by cases v<;>rfl
theorem aea (v:V) (K:B→Nat→Nat→Nat→(Option Nat)→R) (e:R):slR v K e=mZ v K e:=by cases v<;>rfl
theorem Xh (v:V) (K:(List V)→R) (e:R):adZ v K e=Au v K e:=by cases v<;>rfl
noncomputable def fN (m:Nat) (K:Nat→R):R:=Nat.rec (motive:=fun _=>(Nat→R)→R) (fun K=>K 0) (fun p _ K=>K (Nat.succ p)) m K
noncomputable def kL (b:Bool) (x y:R):R:=Bool.rec (motive:=fun _=>R) y x b
noncomputable def bR (b:Bool) (K:V→R):R:=Bool.rec (motive:=fun _=>(V→R)→R) (fun K=>K (.bool false)) (fun K=>K (.bool true)) b K
noncomputable def bnR (b:Bool) (K:V→R):R:=Bool.rec (motive:=fun _=>(V→R)→R) (fun K=>K (.bool true)) (fun K=>K (.bool false)) b K
noncomputable def vO (i:Int) (K:Nat→R) (e:R):R:=Int.rec (motive:=fun _=>(Nat→R)→R→R) (fun m K _=>K m) (fun _ _ e=>e) i K e
noncomputable def aen (o:Option V) (K:V→R) (e:R):R:=Option.rec (motive:=fun _=>(V→R)→R→R) (fun _ e=>e) (fun v K _=>K v) o K e
noncomputable def akt (o:Obj) (K:Bool→Nat→Nat→Tr V→R) (e:R):R:=Obj.rec (motive:=fun _=>(Bool→Nat→Nat→Tr V→R)→R→R) (fun ro sz hi cs K _=>K ro sz hi cs) (fun _ _ _ e=>e) o K e
noncomputable def ZI (o:Option Obj) (K:Bool→Nat→Nat→Tr V→R) (e:R):R:=Option.rec (motive:=fun _=>(Bool→Nat→Nat→Tr V→R)→R→R) (fun _ e=>e) akt o K e
noncomputable def aae (o:Option V):V:=Option.rec (motive:=fun _=>V) .any (fun v=>v) o
theorem DK (m:Nat) (K:Nat→R):fN m K=K m:=by cases m<;>rfl
theorem nS (b:Bool) (x y:R):kL b x y=aJ b x y:=rfl
theorem D7 (b:Bool) (K:V→R):bR b K=K (.bool b):=by cases b<;>rfl
theorem WB (b:Bool) (K:V→R):bnR b K=K (.bool (!b)):=by cases b<;>rfl
theorem XA (o:Option V) (K:V→R) (e:R):aen o K e=Option.rec (motive:=fun _=>R) e (fun v=>K v) o:=by cases o<;>rfl
theorem Gp (o:Option Obj) (K:Bool→Nat→Nat→Tr V→R) (e:R):ZI o K e=iP o K e:=by rcases o with _ | ⟨ro,sz,hi,cs⟩ | ⟨kt,es⟩<;>rfl
structure OV where
 run:Tr V→V
noncomputable def ovG (b:Bool) (g:Nat):OV:=Bool.rec (motive:=fun _=>OV) ⟨fun _ => .any⟩ ⟨fun _ => .ptr ⟨g⟩ 0⟩ b
noncomputable def bT (ng:Nat) (x:Operand):OV:=match x with
 | .tmp t=>⟨fun env=>aae ((lnT V t).get env)⟩
 | .const v=>⟨fun _=>cV v⟩
 | .global g=>ovG (Nat.blt g ng) g
 | .func f=>⟨fun _ => .fn f [] []⟩
theorem dw (ng:Nat) (x:Operand) (env:Tr V):(bT ng x).run env=opV ng env x:=by
 cases x with
 | tmp t=>
   show aae ((bOf t).get env)=match (bOf t).get env with | some v=>v | none => .any
   cases (bOf t).get env<;>rfl
 | const v=>rfl
 | global g=>
   show (ovG (Nat.blt g ng) g).run env=_;simp only [opV];cases h:Nat.blt g ng with
   | true=>rw [if_pos (aN.1 h)];rfl
   | false=>rw [if_neg (fun e=>by rw [aN.2 e] at h;cases h)];rfl
 | func f=>rfl
structure HC where
 run:Cl→Tr V→Tr Obj→B→KV→R
noncomputable def slow (T:Nat→TE) (ng:Nat) (op:Op):HC:=⟨fun call env t nx K=>vK (bJ op) ng env fun vals=>opH op ng T call vals t nx K⟩
def HC.For (h:HC) (T:Nat→TE) (ng:Nat) (op:Op):Prop:=∀ call env t nx K,h.run call env t nx K=vK (bJ op) ng env fun vals=>opH op ng T call vals t nx K
abbrev IF:=Int→Int→(V→R)→R→R
noncomputable def anf:IF:=fun x y K e=>vO x (fun m=>vO y (fun n=>kL (Nat.blt (Nat.add m n) 9223372036854775808) (fN (Nat.add m n) fun s=>K (.int .i64 (.ofNat s))) e) e) e
noncomputable def ajR:IF:=fun x y K e=>vO x (fun m=>vO y (fun n=>kL (and (Nat.ble n m) (Nat.blt m 9223372036854775808)) (fN (Nat.sub m n) fun s=>K (.int .i64 (.ofNat s))) e) e) e
noncomputable def Wn (p:Nat→Nat→Bool):IF:=fun x y K e=>vO x (fun m=>vO y (fun n=>bR (p m n) K) e) e
noncomputable def akr (p:Nat→Nat→Bool):IF:=fun x y K e=>vO x (fun m=>vO y (fun n=>bnR (p m n) K) e) e
structure IC where
 run:IF
noncomputable def KC (op:BinOp):IC:=match op with
 | .add=>⟨anf⟩
 | .sub=>⟨ajR⟩
 | .eql=>⟨Wn Nat.beq⟩
 | .neq=>⟨akr Nat.beq⟩
 | .lss=>⟨Wn Nat.blt⟩
 | .leq=>⟨Wn Nat.ble⟩
 | .gtr=>⟨Wn fun m n=>Nat.blt n m⟩
 | .geq=>⟨Wn fun m n=>Nat.ble n m⟩
 | _=>⟨fun _ _ _ e=>e⟩
theorem wrap_i64 {n:Nat} (h:n<9223372036854775808) (K:Int→R):qK .i64 (.ofNat n) K=K (.ofNat n):=by
 rw [jS,IG (k := .i64) (n := .ofNat n) (aN.2 h)]
theorem x9 (m n:Nat):ltI (.ofNat m) (.ofNat n)=Nat.blt m n:=by
 rw [nN,Bool.eq_iff_iff,aN];simp
theorem Px (m n:Nat):Nat.ble m n=!Nat.blt n m:=by
 rw [Bool.eq_iff_iff,Bool.not_eq_true',← Bool.not_eq_true,aN,aY];omega
theorem X4 (op:BinOp) (x y:Int) (K:V→R):(KC op).run x y K (opI op .i64 x .i64 y K)=opI op .i64 x .i64 y K:=by
 cases op<;>try rfl
 all_goals cases x<;>try rfl
 all_goals cases y<;>try rfl
 all_goals rename_i m n
 case add=>
  show aJ (Nat.blt (m+n) 9223372036854775808) (fN (m+n) fun s=>K (.int .i64 (.ofNat s))) (opI .add .i64 (.ofNat m) .i64 (.ofNat n) K)=_;rw [aQ,DK];split
  ·rename_i h;exact (wrap_i64 (aN.1 h) fun n=>K (.int .i64 n)).symm
  ·rfl
 case sub=>
  show aJ (and (Nat.ble n m) (Nat.blt m 9223372036854775808)) (fN (m-n) fun s=>K (.int .i64 (.ofNat s))) (opI .sub .i64 (.ofNat m) .i64 (.ofNat n) K)=_;rw [aQ,DK];split
  ·rename_i h;obtain ⟨h1,h2⟩:=aB h;have h1:=aY.1 h1;have h2:=aN.1 h2;have e:Int.sub (.ofNat m) (.ofNat n) = .ofNat (m-n):=by
    show (m:Int)-(n:Int)=((m-n:Nat):Int);omega
   show _=qK .i64 (Int.sub (.ofNat m) (.ofNat n)) fun n=>K (.int .i64 n)
   rw [e,wrap_i64 (by omega)]
  ·rfl
 case eql=>
  show bR (Nat.beq m n) K=dI (Nat.beq m n) fun x=>K (.bool x)
  rw [D7,bF]
 case neq=>
  show bnR (Nat.beq m n) K=dI (!(Nat.beq m n)) fun x=>K (.bool x)
  rw [WB,bF]
 case lss=>
  show bR (Nat.blt m n) K=dI (ltI (.ofNat m) (.ofNat n)) fun x=>K (.bool x)
  rw [D7,bF,x9]
 case leq=>
  show bR (Nat.ble m n) K=dI (!(ltI (.ofNat n) (.ofNat m))) fun x=>K (.bool x)
  rw [D7,bF,x9,Px]
 case gtr=>
  show bR (Nat.blt n m) K=dI (ltI (.ofNat n) (.ofNat m)) fun x=>K (.bool x)
  rw [D7,bF,x9]
 case geq=>
  show bR (Nat.ble n m) K=dI (!(ltI (.ofNat m) (.ofNat n))) fun x=>K (.bool x)
  rw [D7,bF,x9,Px]
noncomputable def agz (T:Nat→TE) (ng:Nat) (op:BinOp) (ty:Nat) (ic:IC) (a b:OV):HC:=
 ⟨fun _ env t nx K=>KD (a.run env) (fun x=>KD (b.run env) (fun y=>ic.run x y (fun v=>K v t nx) (kM (a.run env) (T ty) (opI op) (opS op) (opE op) (b.run env) fun v=>K v t nx))
   (kM (a.run env) (T ty) (opI op) (opS op) (opE op) (b.run env) fun v=>K v t nx)) (kM (a.run env) (T ty) (opI op) (opS op) (opE op) (b.run env) fun v=>K v t nx)⟩
noncomputable def eqStr (a b:V) (K:V→R) (e:R):R:=Ee a (fun l n=>Ee b (fun l' n'=>kL (Nat.beq l l') (bR (Nat.beq n n') K) (K (.bool false))) e) e
noncomputable def TL (a b:V) (K:V→R) (e:R):R:=Ee a (fun l n=>Ee b (fun l' n'=>kL (Nat.beq l l') (bnR (Nat.beq n n') K) (K (.bool true))) e) e
noncomputable def aiQ (T:Nat→TE) (ng:Nat) (op:BinOp) (ty:Nat) (f:V→V→(V→R)→R→R) (a b:OV):HC:=
 ⟨fun _ env t nx K=>f (a.run env) (b.run env) (fun v=>K v t nx) (kM (a.run env) (T ty) (opI op) (opS op) (opE op) (b.run env) fun v=>K v t nx)⟩
noncomputable def Ut (T:Nat→TE) (ng:Nat) (op:BinOp) (ty:Nat) (a b:OV):HC:=match (T ty).k with
 | .str=>(match op with
   | .eql=>aiQ T ng op ty eqStr a b
   | .neq=>aiQ T ng op ty TL a b
   | _=>agz T ng op ty (KC op) a b)
 | _=>agz T ng op ty (KC op) a b
noncomputable def KI (x:OV):HC:=⟨fun _ env t nx K=>K (x.run env) t nx⟩
noncomputable def KJ (T:Nat→TE) (ng ty:Nat) (x:Operand) (p:OV):HC:=match (T ty).k with
 | .none=>slow T ng (.load ty x)
 | .agg _=>⟨fun _ env t nx K=>AZ (p.run env) (fun id off=>ZI (id.get t) (fun _ _ _ cs=>rM (T ty).size cs off (fun vs=>K (.agg vs) t nx) (.bad 2)) (.bad 3)) (.bad 4)⟩
 | .arr _ _=>slow T ng (.load ty x)
 | _=>⟨fun _ env t nx K=>AZ (p.run env) (fun id off=>ZI (id.get t) (fun _ _ _ cs=>aen ((lnT V off).get cs) (fun v=>K v t nx) (.bad 2)) (.bad 3)) (.bad 4)⟩
noncomputable def aez (a b:Nat) (K:Nat→R):R:=kL (Nat.ble a b) (K b) (K a)
noncomputable def Ti (id:B) (off:Nat) (v:V) (t:Tr Obj) (K:Tr Obj→R) (e:R):R:=
 ZI (id.get t) (fun ro sz hi cs=>kL ro e (fN (Nat.add off 1) fun en=>kL (Nat.ble en sz) ((lkT V R off).set cs (some v) fun cs'=>aez hi en fun hi'=>(lkT Obj R id.n).set t (some (.blk false sz hi' cs')) K) e)) e
noncomputable def Fe (T:Nat→TE) (ng ty:Nat) (x y:Operand) (p v:OV):HC:=match and (Abs.TE.known (T ty)) (Nat.beq (T ty).size 1) with
 | true=>⟨fun call env t nx K=>MI (v.run env) (fun v=>AZ (p.run env) (fun id off=>Ti id off v t (fun t'=>K .any t' nx) (.bad 5)) (.bad 7)) ((slow T ng (.store ty x y)).run call env t nx K)⟩
 | false=>slow T ng (.store ty x y)
noncomputable def trS (vs:List V):Tr V:=l9 (R:=Tr V) vs .lf 0 fun x=>x
structure TrC where
 n:Nat
 tr:Tr V
noncomputable def trC (vs:List V):TrC:=Nat.rec (motive:=fun _=>TrC) ⟨0,.lf⟩ (fun n _=>⟨Nat.succ n,trS vs⟩) vs.length
noncomputable def aex (n:Nat) (cs:Tr V) (t:Tr Obj) (nx:B) (K:KV):R:=(lkT Obj R nx.n).set t (some (.blk false n n cs)) fun t'=>B.XZ nx fun nx'=>K (.ptr nx 0) t' nx'
noncomputable def Fh (T:Nat→TE) (ng ty:Nat):HC:=match and (Abs.TE.known (T ty)) (List.all (cellsOf (cV (T ty).zero)) one) with
 | true=>⟨fun _ _ t nx K=>aex (trC (cellsOf (cV (T ty).zero))).n (trC (cellsOf (cV (T ty).zero))).tr t nx K⟩
 | false=>slow T ng (.alloc ty)
noncomputable def aeV (T:Nat→TE) (ng ty f:Nat) (x:Operand) (p:OV):HC:=match ql (T ty).k f with
 | some (fo,fsz,_)=>(match Nat.blt 0 fsz with
   | true=>⟨fun _ env t nx K=>AZ (p.run env) (fun id off=>fN (Nat.add off fo) fun o=>K (.ptr id o) t nx) (.bad 8)⟩
   | false=>slow T ng (.fieldAddr ty x f))
 | none=>slow T ng (.fieldAddr ty x f)
noncomputable def Di (v:V) (K:Int→R) (e:R):R:=ahm v (fun _ i=>K i) e
noncomputable def aeU (T:Nat→TE) (ng ty:Nat) (x i:Operand) (px pi:OV):HC:=match (T ty).k with
 | .slc e=>(match Abs.TE.known (T e) with
   | true=>⟨fun call env t nx K=>slR (px.run env) (fun id sz off len _=>Di (pi.run env) (fun i=>kL (Nat.beq sz (T e).size) (vO i (fun m=>kL (Nat.blt m len) (fN (Nat.add off (Nat.mul m sz)) fun o=>K (.ptr id o) t nx) (.bad 11)) (.bad 11)) (.bad 12)) (.bad 13)) (.bad 13)⟩
   | false=>slow T ng (.indexAddr ty x i))
 | _=>slow T ng (.indexAddr ty x i)
noncomputable def Uo (T:Nat→TE) (ng:Nat) (op:Op) (ty:Nat) (x:OV):HC:=match (T ty).k with
 | .slc _=>⟨fun call env t nx K=>slR (x.run env) (fun _ _ _ l _=>K (.int .i64 (.ofNat l)) t nx) ((slow T ng op).run call env t nx K)⟩
 | .str=>⟨fun call env t nx K=>Ee (x.run env) (fun l _=>K (.int .i64 (.ofNat l)) t nx) ((slow T ng op).run call env t nx K)⟩
 | _=>slow T ng op
noncomputable def XG (i:Nat):List V→(V→R)→R→R:=
 Nat.rec (motive:=fun _=>List V→(V→R)→R→R) (fun l=>List.rec (motive:=fun _=>(V→R)→R→R) (fun _ e=>e) (fun v _ _ K _=>K v) l)
  (fun _ ih l=>List.rec (motive:=fun _=>(V→R)→R→R) (fun _ e=>e) (fun _ l _ K e=>ih l K e) l) i
noncomputable def Dn (i:Nat) (x:OV):HC:=⟨fun _ env t nx K=>adZ (x.run env) (fun vs=>XG i vs (fun v=>K v t nx) (.bad 104)) (.bad 105)⟩
noncomputable def frR (r:FR) (K:V→Tr Obj→B→R):R:=FR.rec (motive:=fun _=>(V→Tr Obj→B→R)→R) (fun n _ => .bad n) (fun v t nx K=>K v t nx) r K
structure OVs where
 run:Tr V→List V
noncomputable def Cm (ng:Nat):List Operand→OVs
 | []=>⟨fun _=>[]⟩
 | x::xs=>⟨fun env=>(bT ng x).run env::(Cm ng xs).run env⟩
noncomputable def Ur (f:Nat) (xs:OVs):HC:=⟨fun call env t nx K=>frR (call f (xs.run env) t nx) K⟩
noncomputable def Fb (T:Nat→TE) (ng ty:Nat) (x i:Operand) (px pi:OV):HC:=match (T ty).k with
 | .str=>⟨fun _ env t nx K=>Ee (px.run env) (fun l n=>Di (pi.run env) (fun i=>vO i (fun m=>kL (Nat.blt m l) (fN (Nat.mod (Nat.shiftRight n (Nat.mul 8 (Nat.sub (Nat.sub l 1) m))) 256) fun c=>K (.int .u8 (.ofNat c)) t nx) (.bad 17)) (.bad 17)) (.bad 18)) (.bad 18)⟩
 | _=>slow T ng (.index ty x i)
noncomputable def zN (T:Nat→TE) (ng:Nat) (op:Op):HC:=match op with
 | .move x=>KI (bT ng x)
 | .assign x=>KI (bT ng x)
 | .alloc ty=>Fh T ng ty
 | .load ty x=>KJ T ng ty x (bT ng x)
 | .store ty x y=>Fe T ng ty x y (bT ng x) (bT ng y)
 | .binOp op ty x y _=>Ut T ng op ty (bT ng x) (bT ng y)
 | .fieldAddr ty x f=>aeV T ng ty f x (bT ng x)
 | .indexAddr ty x i=>aeU T ng ty x i (bT ng x) (bT ng i)
 | .index ty x i=>Fb T ng ty x i (bT ng x) (bT ng i)
 | .extract x i=>Dn i (bT ng x)
 | .call c=>(match c.callee,c.args.toList,c.argTypes.toList with
   | .value (.func f),as,_=>Ur f (Cm ng as)
   | .builtin .len,[x],[ty]=>Uo T ng (.call c) ty (bT ng x)
   | _,_,_=>slow T ng (.call c))
 | op=>slow T ng op
structure OC where
 run:Cl→Tr V→Tr Obj→B→KE→R
structure PT where
 run:Tr V→V→(Tr V→R)→R
noncomputable def xI (dst:Option Tmp):PT:=match dst with
 | none=>⟨fun env _ K=>K env⟩
 | some d=>⟨fun env v K=>(lkT V R d).set env (some v) K⟩
noncomputable def ocP (h:HC) (p:PT):OC:=⟨fun call env t nx k=>h.run call env t nx fun v t nx=>p.run env v fun env=>k env t nx⟩
noncomputable def ocG (h:HC) (p:PT) (x:OV) (want:Bool):OC:=⟨fun call env t nx k=>
 Pv (x.run env) (fun b=>kL (qI b want) (h.run call env t nx fun v t nx=>p.run env v fun env=>k env t nx) (p.run env .undef fun env=>k env t nx))
  (qj (x.run env) (p.run env .undef fun env=>k env t nx) (.bad 112))⟩
noncomputable def MK:OC:=⟨fun _ _ _ _ _ => .bad 113⟩
noncomputable def H6 (T:Nat→TE) (ng:Nat) (all:List Oper) (o:Oper):OC:=match o.guard with
 | none=>ocP (zN T ng o.op) (xI o.dst)
 | some (j,want)=>(match all[j]? with
   | some oj=>(match oj.dst with
     | some d=>ocG (zN T ng o.op) (xI o.dst) (bT ng (.tmp d)) want
     | none=>MK)
   | none=>MK)
noncomputable def ahc:OC:=⟨fun _ env t nx k=>k env t nx⟩
noncomputable def aeu (a b:OC):OC:=⟨fun call env t nx k=>a.run call env t nx fun env t nx=>b.run call env t nx k⟩
noncomputable def Sj (T:Nat→TE) (ng:Nat) (all:List Oper):List Oper→OC
 | []=>ahc
 | o::os=>aeu (H6 T ng all o) (Sj T ng all os)
structure DC where
 run:Cl→Tr V→Tr Obj→B→List (Tr Obj×B)→KE→R
noncomputable def hdR (hs:List (Tr Obj×B)) (K:Tr Obj→B→R):R:=List.rec (motive:=fun _=>(Tr Obj→B→R)→R) (fun _ => .bad 130) (fun h _ _ K=>Prod.rec (motive:=fun _=>(Tr Obj→B→R)→R) (fun t nx K=>K t nx) h K) hs K
noncomputable def aeT (h:HC) (hs:List (Tr Obj×B)):HC:=⟨fun call env t nx K=>hdR hs fun t0 nx0=>h.run call env t0 nx0 fun v _ _=>K v t nx⟩
noncomputable def ZX (T:Nat→TE) (ng:Nat) (op:Op) (back:Nat) (hs:List (Tr Obj×B)):HC:=⟨fun call env t nx K=>vK (bJ op) ng env fun vals=>wZ back hs (opH op ng) T call vals t nx K⟩
noncomputable def wM (ng:Nat) (all:List Oper) (o:Oper) (h:HC):OC:=match o.guard with
 | none=>ocP h (xI o.dst)
 | some (j,want)=>(match all[j]? with
   | some oj=>(match oj.dst with
     | some d=>ocG h (xI o.dst) (bT ng (.tmp d)) want
     | none=>MK)
   | none=>MK)
noncomputable def aiH:DC:=⟨fun _ env t nx _ k=>k env t nx⟩
noncomputable def aiG (ng:Nat) (all:List Oper) (o:Oper) (h:HC) (b:DC):DC:=match o.guard with
 | none=>(match xI o.dst with | p=>⟨fun call env t nx hs k=>hdR hs fun t0 nx0=>h.run call env t0 nx0 fun v _ _=>p.run env v fun env=>b.run call env t nx hs k⟩)
 | some _=>⟨fun call env t nx hs k=>(wM ng all o (aeT h hs)).run call env t nx fun env t nx=>b.run call env t nx hs k⟩
noncomputable def dcQ (T:Nat→TE) (ng:Nat) (all:List Oper) (o:Oper) (back:Nat) (b:DC):DC:=
 ⟨fun call env t nx hs k=>(wM ng all o (ZX T ng o.op back hs)).run call env t nx fun env t nx=>b.run call env t nx hs k⟩
noncomputable def dcZ (a:OC) (b:DC):DC:=⟨fun call env t nx hs k=>a.run call env t nx fun env t nx=>b.run call env t nx hs k⟩
noncomputable def dcC (a:OC) (b:DC):DC:=⟨fun call env t nx hs k=>a.run call env t nx fun env t nx=>b.run call env t nx ((t,nx)::hs) k⟩
noncomputable def Vg:DC:=⟨fun _ _ _ _ _ _ => .bad 132⟩
noncomputable def agt:DC:=⟨fun _ _ _ _ _ _ => .bad 133⟩
noncomputable def rP (T:Nat→TE) (ng:Nat) (all:List Oper):List DI→DC
 | []=>aiH
 | .q k back::its=>(match all[k]? with
   | some o=>(match back with
     | 0=>aiG ng all o (zN T ng o.op) (rP T ng all its)
     | back=>dcQ T ng all o back (rP T ng all its))
   | none=>Vg)
 | .z k::its=>(match all[k]? with | some o=>dcZ (H6 T ng all o) (rP T ng all its) | none=>Vg)
 | .c k::its=>(match all[k]? with | some o=>dcC (H6 T ng all o) (rP T ng all its) | none=>Vg)
 | .f _ _ _ _::_=>agt
noncomputable def afs (T:Nat→TE) (ng:Nat) (all:List Oper) (its:List DI):OC:=match its with
 | .f m n a b::rest=>⟨fun call env t nx k=>Xo m n a b rest all T call ng env t nx k⟩
 | its=>⟨fun call env t nx k=>(rP T ng all its).run call env t nx [(t,nx)] k⟩
structure CC where
 run:Cl→Nat→Tr V→Tr Obj→B→KE→(X→KE)→R
noncomputable def xR (x:X) (id:Nat) (a b:R):R:=X.rec (motive:=fun _=>Nat→R→R→R) (fun _ _ b=>b) (fun i id a b=>kL (Nat.beq i id) a b) (fun _ _ b=>b) x id a b
noncomputable def Wh (v:V) (a b:R) (e:R):R:=Pv v (fun c=>kL c a b) e
noncomputable def Ic (c:CC) (call:Cl) (N:Nat) (n:Nat):Tr V→Tr Obj→B→KE→(X→KE)→R:=
 Nat.rec (motive:=fun _=>Tr V→Tr Obj→B→KE→(X→KE)→R) (fun _ _ _ _ _ => .bad 119) (fun _ ih env t nx kn ko=>c.run call N env t nx (fun env t nx=>ih env t nx kn ko) ko) n
noncomputable def rU (T:Nat→TE) (ng:Nat) (ann:Nat→List DI) (c:Code):CC:=match c with
 | .skip=>⟨fun _ _ env t nx kn _=>kn env t nx⟩
 | .ret=>⟨fun _ _ env t nx _ ko=>ko .ret env t nx⟩
 | .exit id=>⟨fun _ _ env t nx _ ko=>ko (.ex id) env t nx⟩
 | .region id ops d=>(match d with
   | false=>⟨fun call _ env t nx kn _=>(Sj T ng ops.toList ops.toList).run call env t nx kn⟩
   | true=>⟨fun call _ env t nx kn _=>(afs T ng ops.toList (ann id)).run call env t nx kn⟩)
 | .seq a b=>⟨fun call N env t nx kn ko=>(rU T ng ann a).run call N env t nx (fun env t nx=>(rU T ng ann b).run call N env t nx kn ko) ko⟩
 | .cond x a b=>⟨fun call N env t nx kn ko=>Wh ((bT ng x).run env) ((rU T ng ann a).run call N env t nx kn ko) ((rU T ng ann b).run call N env t nx kn ko) (.bad 120)⟩
 | .block id c=>⟨fun call N env t nx kn ko=>(rU T ng ann c).run call N env t nx kn (fun x env t nx=>xR x id (kn env t nx) (ko x env t nx))⟩
 | .loop c=>⟨fun call N env t nx kn ko=>Ic (rU T ng ann c) call N N env t nx kn ko⟩
 | _=>⟨fun _ _ _ _ _ _ _ => .bad 121⟩
structure FC where
 pre:List V→Tr Obj→B→FR→FR
 nt:Nat
 cc:CC
 res:List ResultVar
noncomputable def QH (T:Nat→TE) (ng:Nat) (fe:FE):FC:=⟨fe.pre,fe.nt,rU T ng fe.ann fe.body,fe.res⟩
noncomputable def YD (args:List V):Nat→Tr V→(Tr V→R)→R:=
 List.rec (motive:=fun _=>Nat→Tr V→(Tr V→R)→R) (fun _ env K=>K env) (fun v _ ih i env K=>(lkT V R i).set env (some v) fun env=>ih (Nat.succ i) env K) args
noncomputable def okF (r:R) (K:X→Tr V→Tr Obj→B→FR):FR:=R.rec (motive:=fun _=>(X→Tr V→Tr Obj→B→FR)→FR) (fun n _ => .bad n) (fun x env t nx K=>K x env t nx) r K
noncomputable def ahb (o:Option FC) (K:FC→FR) (n:Nat):FR:=Option.rec (motive:=fun _=>(FC→FR)→Nat→FR) (fun _ n => .bad n) (fun v K _=>K v) o K n
noncomputable def qV (T:Nat→TE) (F:Nat→Option FC) (ng N:Nat) (n:Nat):Cl:=
 Nat.rec (motive:=fun _=>Cl) (fun _ _ _ _ => .bad 119) (fun _ ih f args t nx=>ahb (F f) (fun fe=>fe.pre args t nx
  (okF (kL (Nat.ble args.length fe.nt) (YD args 0 .lf fun env=>fe.cc.run ih N env t nx (fun env t nx => .ok .nrm env t nx) (fun x env t nx => .ok x env t nx)) (.bad 119)) fun x env t nx=>aix x fe.res T ng env t nx)) (Nat.add 1000 f)) n
end Go.Sim
