/- Sim: a function whose body ranges over a map: its facts, checked for every order of the entries. -/
import Derived.Test.YthckjidmpbiccaaGreatDoorSimWAnd
import Derived.Maps.RangeRun
import Derived.Laws.IdiomRangeMap
import Derived.Test.YthckjidmpbiccaaGreatDoorSimSrtAnd
set_option linter.unusedVariables false
set_option linter.unusedSimpArgs false
set_option linter.all false
namespace Go.Sim
open Go Go.RowKit Go.ChangeMaps
open Go.Abs (TE TK SK TOK)
def spine:Code→List Code
 | .seq a b=>spine a++spine b
 | c=>[c]
def wpL (P:Program) (Q:Exit→Act→World→Prop):List Code→Act→World→Prop
 | [],a,w=>Q .normal a w
 | c::cs,a,w=>c.wp P (Exit.then (wpL P Q cs) Q) a w
section
variable {P:Program} {Q:Exit→Act→World→Prop}
theorem S9 (c:Code):∀ (cs:List Code) (a:Act) (w:World),wpL P Q (spine c++cs) a w→c.wp P (Exit.then (wpL P Q cs) Q) a w:=by
 induction c with
 | seq a b iha ihb=>
   intro cs x w h
   rw [show spine (.seq a b)=spine a++spine b from rfl,List.append_assoc] at h
   refine wp_seq (wp_mono (iha _ x w h) fun e a' w' he=>?_)
   cases e<;>first | exact ihb cs a' w' he | exact he
 | _=>intro cs x w h;exact h
theorem oG {c:Code} {a:Act} {w:World} (h:wpL P Q (spine c) a w):c.wp P Q a w:=by
 refine wp_mono (S9 (Q:=Q) c [] a w (by rw [List.append_nil];exact h)) fun e a' w' he=>?_
 cases e<;>exact he
end
noncomputable def SI (T:Nat→TE) (ng:Nat) (ann:Nat→List DI):List Code→CC
 | []=>⟨fun _ _ env t nx kn _=>kn env t nx⟩
 | c::cs=>⟨fun call N env t nx kn ko=>(oD T ng ann c).run call N env t nx (fun env t nx=>(SI T ng ann cs).run call N env t nx kn ko) ko⟩
section
variable {P:Program} {T:Nat→TE} {w0:World} {ng:Nat} {nt:Nat}
def CTL (P:Program) (T:Nat→TE) (w0:World) (ng nt:Nat) (cs:List Code) (env:Tr V) (t:Tr Obj) (nx:B) (x:X) (env':Tr V) (t':Tr Obj) (nx':B):Prop:=
 ∀ g hp a w,HR T w0 ng g hp nx w→Sub t hp→AR g nx.num nt env a→∀ (ds:List Code) (Q:Exit→Act→World→Prop),
   (∀ e a' w',QX T w0 ng nt g hp t nx w x env' t' nx' e a' w'→Exit.then (wpL P Q ds) Q e a' w')→wpL P Q (cs++ds) a w
theorem zu (hT:TOK P T) {call:Cl} (hc:fU P T w0 ng call) {ann:Nat→List DI} (N:Nat):∀ (cs:List Code) env t nx kn ko r,(∀ n,R.bad n≠r)→(∀ c∈cs,dG P T w0 ng nt ann c)→(SI T ng ann cs).run call N env t nx kn ko=r →
  ∃ x env' t' nx',CTL P T w0 ng nt cs env t nx x env' t' nx'∧aft x kn ko env' t' nx'=r
 | [],env,t,nx,kn,ko,r,hr,_,h=>⟨.nrm,env,t,nx,fun g hp a w h1 h2 h3 ds Q hQ=>hQ .normal a w ⟨rfl,g,hp,.refl h1 h2,h3⟩,h⟩
 | c::cs,env,t,nx,kn,ko,r,hr,hok,h=>by
   obtain ⟨x1,env1,t1,nx1,k1,k2⟩:=zx (nt:=nt) hT hc N c _ _ _ _ _ _ hr (hok c List.mem_cons_self) h
   cases x1 with
   | nrm=>
     obtain ⟨x,env',t',nx',k3,k4⟩:=zu hT hc N cs _ _ _ _ _ _ hr (fun c h=>hok c (List.mem_cons_of_mem _ h)) k2
     refine ⟨x,env',t',nx',fun g hp a w h1 h2 h3 ds Q hQ=>?_,k4⟩
     refine wp_mono (k1 g hp a w h1 h2 h3) fun e a1 w1 ⟨he,g1,hp1,st,ha⟩=>?_
     subst he
     exact k3 g1 hp1 a1 w1 st.hr st.sub ha ds Q fun e a' w' ⟨he,g',hp',st',ha'⟩=>hQ e a' w' ⟨he,g',hp',st.trans st',ha'⟩
   | ex i=>
     refine ⟨.ex i,env1,t1,nx1,fun g hp a w h1 h2 h3 ds Q hQ=>?_,k2⟩
     refine wp_mono (k1 g hp a w h1 h2 h3) fun e a1 w1 ⟨he,g1,hp1,st,ha⟩=>?_
     subst he
     exact hQ (.exit i) a1 w1 ⟨rfl,g1,hp1,st,ha⟩
   | ret=>
     refine ⟨.ret,env1,t1,nx1,fun g hp a w h1 h2 h3 ds Q hQ=>?_,k2⟩
     refine wp_mono (k1 g hp a w h1 h2 h3) fun e a1 w1 ⟨he,g1,hp1,st,ha⟩=>?_
     subst he
     exact hQ .ret a1 w1 ⟨rfl,g1,hp1,st,ha⟩
theorem wE (hT:TOK P T) {call:Cl} (hc:fU P T w0 ng call) {all:List Oper} (hd:∀ o∈all,∀ d,o.dst=some d→d<nt) {K:KE} {r:R} (hr:∀ n,R.bad n≠r) {ys:List Oper}:∀ {os:List Oper} {env:Tr V} {t:Tr Obj} {nx:B},(∀ o∈os,o∈all) →
  Fv os all T call ng env t nx K=r→∃ env' t' nx',K env' t' nx'=r∧∀ g hp a w,HR T w0 ng g hp nx w→Sub t hp→AR g nx.num nt env a→∀ Q:Exit→Act→World→Prop,
   (∀ g' hp' a' w',Step T w0 ng g hp t nx w g' hp' t' nx' w'→AR g' nx'.num nt env' a'→wpList P all.toArray Q ys a' w')→wpList P all.toArray Q (os++ys) a w
 | [],env,t,nx,_,h=>⟨env,t,nx,h,fun g hp a w h1 h2 h3 Q hQ=>hQ g hp a w (.refl h1 h2) h3⟩
 | o::os,env,t,nx,hin,h=>by
   obtain ⟨b,hw,h1,h2⟩:=jk hr h
   have hdo:∀ d,o.dst=some d→d<nt:=hd o (hin o (by simp))
   cases b with
   | false=>
     obtain ⟨env',t',nx',k1,k2⟩:=wE hT hc hd hr (os:=os) (fun o ho=>hin o (by simp [ho])) (h2 rfl)
     refine ⟨env',t',nx',k1,fun g hp a w g1 g2 g3 Q hQ=>?_⟩
     rw [List.cons_append]
     unfold wpList
     rw [hw.wanted g3 hd,if_neg (by simp)]
     exact k2 g hp _ w g1 g2 (g3.put hdo .undef) Q hQ
   | true=>
     obtain ⟨v,t1,nx1,k1,k2⟩:=Ag (P:=P) hT o call hc _ _ _ _ r hr (h1 rfl)
     obtain ⟨env',t',nx',k3,k4⟩:=wE hT hc hd hr (os:=os) (fun o ho=>hin o (by simp [ho])) k1
     refine ⟨env',t',nx',k3,fun g hp a w g1 g2 g3 Q hQ=>?_⟩
     rw [List.cons_append]
     unfold wpList
     rw [hw.wanted g3 hd,if_pos rfl]
     refine .inl (k2 g hp a w g1 g2 (by rw [mG];exact g3.JW g1 _) _ Q fun g1' hp1 v' w1 st hv=>?_)
     exact k4 g1' hp1 _ w1 st.hr st.sub ((g3.mono st.ext st.le).put hdo hv) Q fun g' hp' a' w' st' ha=>hQ g' hp' a' w' (st.trans st') ha
theorem Step.touch {g0 g:Gh} {hp0 hp:B→Option Obj} {t0 t:Tr Obj} {nx0 nx:B} {wS w w':World} (st:Step T w0 ng g0 hp0 t0 nx0 wS g hp t nx w) (hl:Like ng w w') {r:Nat} (hold:∀ b,b≠r→w'.heap[b]?=w.heap[b]?)
  (h1:wS.heap.size≤r) (h2:w0.heap.size≤r) (hf:∀ id o,hp id=some o→(g id).b≠r):Step T w0 ng g0 hp0 t0 nx0 wS g hp t nx w':=by
 have h:=st.hr
 refine ⟨st.ext,st.le,⟨hl.os.trans h.os,hl.tape.trans h.tape,hl.output.trans h.output,Nat.le_trans h.size hl.size,fun b hb=>(hold b (by omega)).trans (h.old b hb),
  fun id o ho=>⟨(h.obj id o ho).1,(h.obj id o ho).2.mono (.refl _ _) (Nat.le_refl _) (h.obj id o ho).1 (hold _ (hf id o ho))⟩,h.sep,h.new,h.glob,h.ngx⟩,st.sub,st.fr,st.dm,Nat.le_trans st.sz hl.size,fun e=>Nat.le_trans (st.dr e) (hl.dr e),fun b hb hn=>(hold b (by omega)).trans (st.un b hb hn),st.pl,st.pl2⟩
structure It (w0:World) (g:Gh) (hp:B→Option Obj) (t:Tr Obj) (nx:B) (w:World) (m j:B) (kt:Nat) (es:List (V×V)) (ents:Array MapEntry) (clock:Nat) (left:List Nat):Prop where
 hm:hp m=some (.map kt es)
 tm:m.get t=none
 jn:j.num<nx.num
 jo:(g j).o=0
 jl:(g j).b<w.heap.size
 jf:∀ id o,hp id=some o→(g id).b≠(g j).b
 jw:w0.heap.size≤(g j).b
 mp:w.heap[(g m).b]?=some (.map ents clock)
 it:∃ seen,w.heap[(g j).b]?=some (.mapIter (some (g m).b) clock seen clock)∧∀ (i:Nat) e,ents[i]?=some e→(e.born∈seen↔i∉left)
 lt:∀ i∈left,i<ents.size
theorem It.keep {g g':Gh} {hp hp':B→Option Obj} {t t':Tr Obj} {nx nx':B} {w w':World} {m j:B} {kt:Nat} {es:List (V×V)} {ents:Array MapEntry} {clock:Nat} {left:List Nat} (h:It w0 g hp t nx w m j kt es ents clock left)
  (hr:HR T w0 ng g hp nx w) (hs:Sub t hp) (st:Step T w0 ng g hp t nx w g' hp' t' nx' w'):It w0 g' hp' t' nx' w' m j kt es ents clock left:=by
 have hml:m.num<nx.num:=(hr.obj m _ h.hm).1
 have em:g' m=g m:=st.ext m hml
 have ej:g' j=g j:=st.ext j h.jn
 obtain ⟨u1,u2⟩:=st.apart hs h.jl h.jf
 have hmb:(g m).b<w.heap.size:=by
  have:=h.mp
  exact (Array.getElem?_eq_some_iff.1 this).1
 have u3:w'.heap[(g m).b]?=w.heap[(g m).b]?:=st.un _ hmb fun id o h1 h2=>hr.sep id m o _ (hs id o h1) h.hm (fun e=>by rw [e,h.tm] at h1;cases h1) h2
 obtain ⟨seen,s1,s2⟩:=h.it
 exact ⟨by rw [st.fr m hml h.tm];exact h.hm,st.dm m hml h.tm,Nat.lt_of_lt_of_le h.jn st.le,by rw [ej];exact h.jo,by rw [ej];exact Nat.lt_of_lt_of_le h.jl st.sz,by rw [ej];exact u2,by rw [ej];exact h.jw,
  by rw [em,u3];exact h.mp,⟨seen,by rw [ej,em,u1];exact s1,s2⟩,h.lt⟩
theorem KO {g:Gh} {n:Nat} {cs:List V} {vs:List Value} (h:RVL g n cs vs):RV g n (.tup cs) (.tuple vs.toArray):=
 .tup _ _ (by simpa using h.1) fun i c v hc hv=>h.2 i c v hc (by simpa using hv)
end
noncomputable def aky (a b:R):R:=R.rec (motive:=fun _=>R) (fun n => .bad n) (fun _ _ _ _=>b) a
noncomputable def KT (f:Nat→R) (l:List Nat):R:=List.rec (motive:=fun _=>R) (.ok .nrm .lf .lf ⟨0⟩) (fun i _ ih=>aky (f i) ih) l
def zU (i:Nat) (l:List Nat):List Nat:=l.filter fun k=>not (Nat.beq i k)
theorem aaN {a b:R} (h:∀ n,R.bad n≠aky a b):(∀ n,R.bad n≠a)∧∀ n,R.bad n≠b:=by
 cases a with
 | bad k=>exact absurd rfl (h k)
 | ok x env t nx=>exact ⟨fun n=>XJ,h⟩
theorem DL {f:Nat→R}:∀ {l:List Nat},(∀ n,R.bad n≠KT f l)→∀ i∈l,∀ n,R.bad n≠f i
 | [],_,i,hi=>by cases hi
 | k::l,h,i,hi=>by
   obtain ⟨h1,h2⟩:=aaN (a:=f k) (b:=KT f l) h
   rcases List.mem_cons.1 hi with rfl | hi
   ·exact h1
   ·exact DL h2 i hi
theorem Jf {i k:Nat} {l:List Nat}:k∈zU i l↔k∈l∧k≠i:=by
 unfold zU
 rw [List.mem_filter]
 constructor
 ·rintro ⟨h1,h2⟩
  refine ⟨h1,fun e=>?_⟩
  rw [e] at h2
  simp at h2
 ·rintro ⟨h1,h2⟩
  refine ⟨h1,?_⟩
  cases hb:Nat.beq i k with
  | false=>rfl
  | true=>exact absurd (Nat.eq_of_beq_eq_true hb).symm h2
structure RgP where
 nC:List Oper
 nxo:Oper
 L8:Operand
 x9:List Oper
 cnd:Code
 k5:Nat
 kZ:List Oper
 eno:Oper
 Df:Operand
 yB:List Oper
 bs:List Code
 k:Nat
noncomputable def TY (ng:Nat) (x:Operand) (j:B) (env:Tr V) (r:R):R:=iR ((bF ng x).run env) (fun id off=>aH (and (Nat.beq id.n j.n) (Nat.beq off 0)) r (.bad 131)) (.bad 132)
theorem NP {ng:Nat} {x:Operand} {j:B} {env:Tr V} {r r':R} (h:TY ng x j env r=r') (hr:∀ n,R.bad n≠r'):opV ng env x = .ptr j 0∧r=r':=by
 unfold TY at h
 rw [bQ] at h
 obtain ⟨id,off,h1,h2⟩:=iL h (hr _)
 obtain ⟨h3,h4⟩:=aC h2 (hr _)
 obtain ⟨h5,h6⟩:=aB h3
 rw [h1]
 exact ⟨by rw [B.dD (beq_iff.1 h5),beq_iff.1 h6],h4⟩
section
variable (T:Nat→TE) (ng:Nat) (ann:Nat→List DI) (call:Cl) (N:Nat) (p:RgP) (j:B) (es:List (V×V)) (kn:KE) (ko:X→KE)
noncomputable def KW (env:Tr V) (t:Tr Obj) (nx:B):R:=oC p.nxo.dst env (.tup [.bool false]) fun env=>(CY T ng p.nC p.x9).run call env t nx fun env t nx=>
 (oD T ng ann p.cnd).run call N env t nx (fun _ _ _ => .bad 133) (fun x env t nx=>xR x p.k (kn env t nx) (ko x env t nx))
noncomputable def wF (e:V×V) (lp:KE) (env:Tr V) (t:Tr Obj) (nx:B):R:=oC p.nxo.dst env (.tup [.bool true,e.1,e.2]) fun env=>(CY T ng p.nC p.x9).run call env t nx fun env t nx=>
 (oD T ng ann p.cnd).run call N env t nx (fun env t nx=>TY ng p.Df j env (oC p.eno.dst env (.tup [e.1,e.2]) fun env=>(CY T ng p.kZ p.yB).run call env t nx fun env t nx=>
  (SI T ng ann p.bs).run call N env t nx lp (fun x env t nx=>xR x p.k5 (lp env t nx) (xR x p.k (kn env t nx) (ko x env t nx))))) (fun x env t nx=>xR x p.k (kn env t nx) (ko x env t nx))
noncomputable def oP (n:Nat):List Nat→KE:=Nat.rec (motive:=fun _=>List Nat→KE) (fun _ _ _ _ => .bad 134)
 (fun _ ih left env t nx=>TY ng p.L8 j env (match left with
  | []=>KW T ng ann call N p kn ko env t nx
  | i::l=>KT (fun i'=>iO es[i']? (fun e=>wF T ng ann call N p j kn ko e (ih (zU i' (i::l))) env t nx) (.bad 135)) (i::l))) n
end
section
variable {P:Program} {T:Nat→TE} {w0:World} {ng:Nat} {nt:Nat}
def RgQ (P:Program) (T:Nat→TE) (w0:World) (ng nt:Nat) (p:RgP) (kn:KE) (ko:X→KE) (g0:Gh) (hp0:B→Option Obj) (t0:Tr Obj) (nx0:B) (wS:World) (m:B) (kt:Nat) (es:List (V×V)):Exit→Act→World→Prop:=fun e a' w'=>
 ∃ x env' t' nx' g' hp',e=x.exit∧x≠X.nrm∧Step T w0 ng g0 hp0 t0 nx0 wS g' hp' t' nx' w'∧AR g' nx'.num nt env' a'∧hp' m=some (.map kt es)∧m.get t'=none∧∀ n,R.bad n≠xR x p.k (kn env' t' nx') (ko x env' t' nx')
theorem kM (w:World) (r:Nat) (o:Go.Obj):(setBlock w r o).heap.size=w.heap.size:=by
 show (w.heap.setIfInBounds r o).size=_
 simp
theorem DN (hT:TOK P T) {call:Cl} (hc:fU P T w0 ng call) {ann:Nat→List DI} (N:Nat) {p:RgP} {Lc Bc:Code} {i16 i17:Nat}
  (hL:spine Lc=[.region i16 p.nC.toArray false,p.cnd,.block p.k5 Bc]) (hB:spine Bc = .region i17 p.kZ.toArray false::p.bs)
  (h16:p.nC=p.nxo::p.x9) (hn:p.nxo.op = .next p.L8 false) (hng:p.nxo.guard=none)
  (h17:p.kZ=p.eno::p.yB) (he:p.eno.op = .entry p.Df) (heg:p.eno.guard=none)
  (d16:∀ o∈p.nC,∀ d,o.dst=some d→d<nt) (d17:∀ o∈p.kZ,∀ d,o.dst=some d→d<nt) (ok1:dG P T w0 ng nt ann p.cnd) (ok2:∀ c∈p.bs,dG P T w0 ng nt ann c)
  {g0:Gh} {hp0:B→Option Obj} {t0:Tr Obj} {nx0:B} {wS:World} {m j:B} {kt:Nat} {es:List (V×V)} {ents:Array MapEntry} {clock:Nat} {kn:KE} {ko:X→KE} :
  ∀ n left env t nx r,(∀ k,R.bad k≠r)→oP T ng ann call N p j es kn ko n left env t nx=r→∀ g hp a w,Step T w0 ng g0 hp0 t0 nx0 wS g hp t nx w→AR g nx.num nt env a →
    It w0 g hp t nx w m j kt es ents clock left→wS.heap.size≤(g j).b→gB P Lc (RgQ P T w0 ng nt p kn ko g0 hp0 t0 nx0 wS m kt es) a w
 | 0,left,env,t,nx,r,hr,h=>absurd h (hr _)
 | n+1,left,env,t,nx,r,hr,h=>fun g hp a w st ha hit hj=>by
   obtain ⟨hv,h1⟩:=NP h hr
   have hdn:∀ d,p.nxo.dst=some d→d<nt:=d16 p.nxo (by rw [h16];exact List.mem_cons_self)
   have hde:∀ d,p.eno.dst=some d→d<nt:=d17 p.eno (by rw [h17];exact List.mem_cons_self)
   have hp16:a.eval p.L8 = .pointer (some ⟨(g j).b,0,none⟩):=by
    have:=ha.eval st.hr p.L8
    rw [hv] at this
    generalize a.eval p.L8=u at this
    cases this
    rw [hit.jo]
   obtain ⟨hmn,ents',clock',q1,q2,q3,q4,q5⟩:=st.hr.obj m _ hit.hm
   have hq:ents'=ents∧clock'=clock:=by
    have:=hit.mp
    rw [q1] at this
    cases this
    exact ⟨rfl,rfl⟩
   obtain ⟨rfl,rfl⟩:=hq
   obtain ⟨seen,s1,s2⟩:=hit.it
   refine gB.step (oG ?_)
   rw [hL]
   refine wp_region_lit ?_
   generalize hQ1:Exit.then (gB P Lc (RgQ P T w0 ng nt p kn ko g0 hp0 t0 nx0 wS m kt es)) (RgQ P T w0 ng nt p kn ko g0 hp0 t0 nx0 wS m kt es)=Q1
   have out:∀ x env' t' nx' g' hp' a' w',x≠X.nrm→Step T w0 ng g0 hp0 t0 nx0 wS g' hp' t' nx' w'→AR g' nx'.num nt env' a'→hp' m=some (.map kt es)→m.get t'=none→(∀ n,R.bad n≠xR x p.k (kn env' t' nx') (ko x env' t' nx'))→Q1 x.exit a' w':=
    fun x env' t' nx' g' hp' a' w' hx k1 k2 k3 k4 k5=>by
     subst hQ1
     have:RgQ P T w0 ng nt p kn ko g0 hp0 t0 nx0 wS m kt es x.exit a' w':=⟨x,env',t',nx',g',hp',rfl,hx,k1,k2,k3,k4,k5⟩
     cases x with
     | nrm=>exact absurd rfl hx
     | ex i=>exact this
     | ret=>exact this
   have key:wpList P p.nC.toArray (Exit.then (wpL P Q1 [p.cnd,.block p.k5 Bc]) Q1) (p.nxo::p.x9) a w:=by
    unfold wpList
    rw [if_pos (by simp [Region.wanted,hng])]
    refine .inl ?_
    unfold Oper.wp
    rcases run_next_at (P:=P) w p.nxo.type (g j).b (g m).b clock' clock' seen ents' clock' s1 q1 q5.1 (Nat.le_refl _) with ⟨h0,hrun⟩ | ⟨e,hel,w1,hw1,hrun⟩
    ·have hex:(execOp a.eval p.nxo).run P w = .ok (.value (.tuple #[.bool false])) w:=by simp [execOp,hn,hp16,hrun,Result.andThen]
     rw [hex]
     have hleft:left=[]:=by
      cases left with
      | nil=>rfl
      | cons i l=>
        have hi:=hit.lt i List.mem_cons_self
        have hns:ents'[i].born∉seen:=fun hm=>(s2 i _ (Array.getElem?_eq_getElem hi)).1 hm List.mem_cons_self
        have hm:ents'[i]∈leftOf ents' seen:=by
         unfold leftOf
         rw [Array.mem_filter]
         exact ⟨by simp,by simpa using hns⟩
        rw [Array.eq_empty_of_size_eq_zero h0] at hm
        simp at hm
     subst hleft
     have h2:KW T ng ann call N p kn ko env t nx=r:=h1
     unfold KW at h2
     rw [qA,qy] at h2
     obtain ⟨env1,t1,nx1,k1,k2⟩:=jK (P:=P) (w0:=w0) (nt:=nt) hT hc d16 hr (os:=p.x9) (fun o ho=>by rw [h16];exact List.mem_cons_of_mem _ ho) h2
     refine k2 g hp _ w st.hr st.sub (ha.put hdn (KO (RVL.cons (.bool false) .nil))) _ fun g1 hp1 a1 w1 st1 ha1=>?_
     obtain ⟨x,env2,t2,nx2,k3,k4⟩:=zx (nt:=nt) hT hc N p.cnd _ _ _ _ _ _ hr ok1 k1
     refine wp_mono (k3 g1 hp1 a1 w1 st1.hr st1.sub ha1) fun e2 a2 w2 ⟨he2,g2,hp2,st2,ha2⟩=>?_
     subst he2
     have it2:=(hit.keep st.hr st.sub st1).keep st1.hr st1.sub st2
     have o2:x≠X.nrm→Q1 x.exit a2 w2:=fun hx=>out x env2 t2 nx2 g2 hp2 a2 w2 hx (st.trans (st1.trans st2)) ha2 it2.hm it2.tm fun n hb=>by
      cases x with
      | nrm=>exact hx rfl
      | ex i=>exact hr n (hb.trans k4)
      | ret=>exact hr n (hb.trans k4)
     cases x with
     | nrm=>exact absurd k4 (hr _)
     | ex i=>exact o2 (by simp)
     | ret=>exact o2 (by simp)
    ·have hex:(execOp a.eval p.nxo).run P w = .ok (.value (.tuple #[.bool true,e.key,e.val])) (setBlock w1 (g j).b (.mapIter (some (g m).b) clock' (seen.push e.born) clock')):=by simp [execOp,hn,hp16,hrun,Result.andThen]
     rw [hex]
     have hel2:e∈ents'∧e.born∉seen:=by
      have he':e∈leftOf ents' seen:=by simpa using hel
      unfold leftOf at he'
      rw [Array.mem_filter] at he'
      exact ⟨he'.1,by simpa using he'.2⟩
     obtain ⟨i,hi,hie⟩:=Array.getElem_of_mem hel2.1
     have hgi:ents'[i]?=some e:=by rw [Array.getElem?_eq_getElem hi,hie]
     have hil:i∈left:=Decidable.by_contra fun hni=>hel2.2 ((s2 i e hgi).2 hni)
     have hes:i<es.length:=by rw [← q2];exact hi
     have hge:es[i]?=some es[i]:=List.getElem?_eq_getElem hes
     obtain ⟨rk,rv⟩:=q3 i e es[i] hgi hge
     generalize hw':setBlock w1 (g j).b (.mapIter (some (g m).b) clock' (seen.push e.born) clock')=w'
     have hh1:w1.heap=w.heap:=by rcases hw1 with rfl | rfl<;>rfl
     have hheap:w'.heap=w.heap.setIfInBounds (g j).b (.mapIter (some (g m).b) clock' (seen.push e.born) clock'):=by
      subst hw'
      show w1.heap.setIfInBounds _ _=_
      rw [hh1]
     have hlike:Like ng w w':=by
      subst hw'
      rcases hw1 with rfl | rfl
      ·exact ⟨rfl,rfl,rfl,Nat.le_of_eq (kM _ _ _).symm,fun _=>Nat.le_refl _⟩
      ·exact ⟨rfl,rfl,rfl,Nat.le_of_eq (kM _ _ _).symm,fun _=>Nat.le_succ _⟩
     have hold:∀ b,b≠(g j).b→w'.heap[b]?=w.heap[b]?:=fun b hb=>by rw [hheap,Array.getElem?_setIfInBounds_ne (Ne.symm hb)]
     have hjb:w'.heap[(g j).b]?=some (.mapIter (some (g m).b) clock' (seen.push e.born) clock'):=by rw [hheap];simp [hit.jl]
     have st':=st.touch hlike hold hj hit.jw hit.jf
     have hit':It w0 g hp t nx w' m j kt es ents' clock' (zU i left):=by
      refine ⟨hit.hm,hit.tm,hit.jn,hit.jo,Nat.lt_of_lt_of_le hit.jl hlike.size,hit.jf,hit.jw,by rw [hold _ (hit.jf m _ hit.hm)];exact q1,⟨seen.push e.born,hjb,fun k e' hk=>?_⟩,fun k hk=>hit.lt k (Jf.1 hk).1⟩
      rw [Array.mem_push,s2 k e' hk,Jf]
      constructor
      ·rintro (h3 | h3)
       ·exact fun h4=>h3 h4.1
       ·intro h4
        apply h4.2
        have hnd:=q5.2
        obtain ⟨hk1,hk2⟩:=Array.getElem?_eq_some_iff.1 hk
        rw [List.nodup_iff_pairwise_ne,List.pairwise_map,List.pairwise_iff_getElem] at hnd
        apply Decidable.by_contra
        intro hne
        rcases Nat.lt_or_gt_of_ne hne with hlt | hlt
        ·exact hnd k i (by simpa using hk1) (by simpa using hi) hlt (by simp only [Array.getElem_toList];rw [hk2,hie];exact h3)
        ·exact hnd i k (by simpa using hi) (by simpa using hk1) hlt (by simp only [Array.getElem_toList];rw [hk2,hie];exact h3.symm)
      ·intro h3
       by_cases hki:k=i
       ·subst hki
        rw [hgi] at hk
        cases hk
        exact .inr rfl
       ·exact .inl fun h4=>h3 ⟨h4,hki⟩
     have hpk:∀ n',R.bad n'≠iO es[i]? (fun e=>wF T ng ann call N p j kn ko e (oP T ng ann call N p j es kn ko n (zU i left)) env t nx) (.bad 135):=by
      cases left with
      | nil=>cases hil
      | cons i0 l0=>exact DL (f:=fun i'=>iO es[i']? (fun e=>wF T ng ann call N p j kn ko e (oP T ng ann call N p j es kn ko n (zU i' (i0::l0))) env t nx) (.bad 135)) (fun k hk=>hr k (hk.trans h1)) i hil
     rw [hge] at hpk
     have hm2:∀ n',R.bad n'≠wF T ng ann call N p j kn ko es[i] (oP T ng ann call N p j es kn ko n (zU i left)) env t nx:=hpk
     generalize hr2:wF T ng ann call N p j kn ko es[i] (oP T ng ann call N p j es kn ko n (zU i left)) env t nx=r2 at hm2
     unfold wF at hr2
     rw [qA,qy] at hr2
     obtain ⟨env1,t1,nx1,k1,k2⟩:=jK (P:=P) (w0:=w0) (nt:=nt) hT hc d16 hm2 (os:=p.x9) (fun o ho=>by rw [h16];exact List.mem_cons_of_mem _ ho) hr2
     refine k2 g hp _ w' st'.hr st'.sub (ha.put hdn (KO (RVL.cons (.bool true) (RVL.cons rk (RVL.cons rv .nil))))) _ fun g1 hp1 a1 w2 st1 ha1=>?_
     obtain ⟨x,env2,t2,nx2,k3,k4⟩:=zx (nt:=nt) hT hc N p.cnd _ _ _ _ _ _ hm2 ok1 k1
     refine wp_mono (k3 g1 hp1 a1 w2 st1.hr st1.sub ha1) fun e2 a2 w3 ⟨he2,g2,hp2,st2,ha2⟩=>?_
     subst he2
     have it1:=hit'.keep st'.hr st'.sub st1
     have it2:=it1.keep st1.hr st1.sub st2
     have hml:m.num<nx.num:=hmn
     have ej1:g1 j=g j:=st1.ext j hit.jn
     have em1:g1 m=g m:=st1.ext m hml
     have ej2:g2 j=g j:=(st2.ext j it1.jn).trans ej1
     have em2:g2 m=g m:=(st2.ext m (Nat.lt_of_lt_of_le hml st1.le)).trans em1
     cases x with
     | ex i3=>exact out (.ex i3) env2 t2 nx2 g2 hp2 a2 w3 (by simp) (st'.trans (st1.trans st2)) ha2 it2.hm it2.tm fun n' hb=>hm2 n' (hb.trans k4)
     | ret=>exact out .ret env2 t2 nx2 g2 hp2 a2 w3 (by simp) (st'.trans (st1.trans st2)) ha2 it2.hm it2.tm fun n' hb=>hm2 n' (hb.trans k4)
     | nrm=>
       obtain ⟨hv2,k5⟩:=NP (show TY ng p.Df j env2 _=r2 from k4) hm2
       rw [qA,qy] at k5
       obtain ⟨env3,t3,nx3,k6,k7⟩:=jK (P:=P) (w0:=w0) (nt:=nt) hT hc d17 hm2 (os:=p.yB) (fun o ho=>by rw [h17];exact List.mem_cons_of_mem _ ho) k5
       obtain ⟨x5,env4,t4,nx4,k8,k9⟩:=zu (nt:=nt) hT hc N p.bs _ _ _ _ _ _ hm2 ok2 k6
       have hp17:a2.eval p.Df = .pointer (some ⟨(g2 j).b,0,none⟩):=by
        have:=ha2.eval st2.hr p.Df
        rw [hv2] at this
        generalize a2.eval p.Df=u at this
        cases this
        rw [it2.jo]
       have hjb3:w3.heap[(g2 j).b]?=some (.mapIter (some (g2 m).b) clock' (seen.push e.born) clock'):=by
        have u1:=(st1.apart st'.sub hit'.jl hit'.jf).1
        have u2:=(st2.apart st1.sub it1.jl it1.jf).1
        rw [ej1] at u2
        rw [ej2,em2,u2,u1]
        exact hjb
       have hrun2:=run_entry_at (P:=P) w3 (g2 j).b (g2 m).b clock' seen ents' clock' e hjb3 it2.mp (by simpa using hel2.1) q5.2
       have hex2:(execOp a2.eval p.eno).run P w3 = .ok (.value (.tuple #[e.key,e.val])) w3:=by simp [execOp,he,hp17,hrun2,Result.andThen]
       have hext:Ext g g2 nx.num:=st1.ext.trans st2.ext st1.le
       have hle:nx.num≤nx2.num:=Nat.le_trans st1.le st2.le
       refine wp_block (oG ?_)
       rw [hB]
       refine wp_region_lit ?_
       generalize hQ2:Exit.inBlock p.k5 (Exit.then (wpL P Q1 []) Q1)=Q2
       have lpQ:∀ a4 w5,gB P Lc (RgQ P T w0 ng nt p kn ko g0 hp0 t0 nx0 wS m kt es) a4 w5→Q2 .normal a4 w5:=fun a4 w5 hl=>by
        subst hQ2;subst hQ1;exact hl
       have key2:wpList P p.kZ.toArray (Exit.then (wpL P Q2 p.bs) Q2) (p.eno::p.yB) a2 w3:=by
        unfold wpList
        rw [if_pos (by simp [Region.wanted,heg])]
        refine .inl ?_
        unfold Oper.wp
        rw [hex2]
        refine k7 g2 hp2 _ w3 st2.hr st2.sub (ha2.put hde (KO (RVL.cons (rk.mono hext hle) (RVL.cons (rv.mono hext hle) .nil)))) _ fun g3 hp3 a3 w4 st3 ha3=>?_
        have fin:=k8 g3 hp3 a3 w4 st3.hr st3.sub ha3 [] Q2 fun e4 a4 w5 ⟨he4,g4,hp4,st4,ha4⟩=>by
         subst he4
         have it3:=it2.keep st2.hr st2.sub st3
         have it4:=it3.keep st3.hr st3.sub st4
         have stT:=st'.trans (st1.trans (st2.trans (st3.trans st4)))
         have ej4:g4 j=g j:=((st4.ext j it3.jn).trans (st3.ext j it2.jn)).trans ej2
         have again:(∀ n',R.bad n'≠oP T ng ann call N p j es kn ko n (zU i left) env4 t4 nx4)→gB P Lc (RgQ P T w0 ng nt p kn ko g0 hp0 t0 nx0 wS m kt es) a4 w5:=fun hlp=>
          DN hT hc N hL hB h16 hn hng h17 he heg d16 d17 ok1 ok2 n (zU i left) env4 t4 nx4 _ hlp rfl g4 hp4 a4 w5 stT ha4 it4 (by rw [ej4];exact hj)
         cases x5 with
         | nrm=>exact lpQ a4 w5 (again fun n' hb=>hm2 n' (hb.trans k9))
         | ret=>
           have o4:=out .ret env4 t4 nx4 g4 hp4 a4 w5 (by simp) stT ha4 it4.hm it4.tm fun n' hb=>hm2 n' (hb.trans k9)
           subst hQ2
           exact o4
         | ex i5=>
           have k9:jr (Nat.beq i5 p.k5) (oP T ng ann call N p j es kn ko n (zU i left) env4 t4 nx4) (xR (.ex i5) p.k (kn env4 t4 nx4) (ko (.ex i5) env4 t4 nx4))=r2:=k9
           rw [jc,aO] at k9
           by_cases h5:i5=p.k5
           ·rw [if_pos (beq_iff.2 h5)] at k9
            have hl:=again fun n' hb=>hm2 n' (hb.trans k9)
            subst hQ2;subst hQ1
            show Exit.inBlock p.k5 _ (Exit.exit i5) a4 w5
            simp only [Exit.inBlock,if_pos h5]
            exact hl
           ·rw [if_neg (fun hb=>h5 (beq_iff.1 hb))] at k9
            have o4:=out (.ex i5) env4 t4 nx4 g4 hp4 a4 w5 (by simp) stT ha4 it4.hm it4.tm fun n' hb=>hm2 n' (hb.trans k9)
            subst hQ2
            show Exit.inBlock p.k5 _ (Exit.exit i5) a4 w5
            simp only [Exit.inBlock,if_neg h5]
            exact o4
        rwa [List.append_nil] at fin
       exact (congrArg (fun l=>wpList P p.kZ.toArray (Exit.then (wpL P Q2 p.bs) Q2) l a2 w3) h17).mpr key2
   exact (congrArg (fun l=>wpList P p.nC.toArray (Exit.then (wpL P Q1 [p.cnd,.block p.k5 Bc]) Q1) l a w) h16).mpr key
end
end Go.Sim
namespace Go.Sim
open Go Go.RowKit Go.ChangeMaps
open Go.Abs (TE TK SK TOK)
structure RgF where
 pre:List Code
 i15:Nat
 vV:List Oper
 init:List Oper
 rg:Oper
 ty:Nat
 mop:Operand
 i16:Nat
 i17:Nat
 Lc:Code
 Bc:Code
 p:RgP
 rest:List Code
def Fz:List Oper→Option (List Oper×Oper)
 | []=>none
 | o::os=>match os with
   | []=>some ([],o)
   | _::_=>match Fz os with | some (i,l)=>some (o::i,l) | none=>none
theorem DR:∀ {l:List Oper} {i:List Oper} {o:Oper},Fz l=some (i,o)→l=i++[o]
 | [],_,_,h=>by cases h
 | [x],i,o,h=>by cases h;rfl
 | x::y::os,i,o,h=>by
   have h':(match Fz (y::os) with | some (i,l)=>some (x::i,l) | none=>none)=some (i,o):=h
   split at h'
   ·rename_i i1 l1 e
    cases h'
    rw [DR e];rfl
   ·cases h'
def KX (c:Code):Option (Nat×List Oper×Oper×Operand×List Oper×List Code):=match spine c with
 | .region i ops false::bs=>(match ops.toList with
   | o::tl=>(match o.guard,o.op with | none,.entry x=>some (i,o::tl,o,x,tl,bs) | _,_=>none)
   | []=>none)
 | _=>none
theorem Ri {c:Code} {i:Nat} {all tl:List Oper} {o:Oper} {x:Operand} {bs:List Code} (h:KX c=some (i,all,o,x,tl,bs)) :
  spine c = .region i all.toArray false::bs∧all=o::tl∧o.op = .entry x∧o.guard=none:=by
 unfold KX at h
 split at h
 ·rename_i i0 ops bs0 e
  split at h
  ·rename_i o0 tl0 e2
   split at h
   ·rename_i e3 e4
    cases h
    refine ⟨?_,rfl,e4,e3⟩
    rw [e,← e2]
   ·cases h
  ·cases h
 ·cases h
def afI (k:Nat) (c:Code):Option (Nat×Nat×Code×RgP):=match spine c with
 | [.region i ops false,cnd,.block k5 b]=>(match ops.toList with
   | o::tl=>(match o.guard,o.op with
     | none,.next x false=>(match KX b with
       | some (i17,kZ,eno,Df,yB,bs)=>some (i,i17,b,⟨o::tl,o,x,tl,cnd,k5,kZ,eno,Df,yB,bs,k⟩)
       | none=>none)
     | _,_=>none)
   | []=>none)
 | _=>none
theorem YS {k:Nat} {c:Code} {i16 i17:Nat} {b:Code} {p:RgP} (h:afI k c=some (i16,i17,b,p)) :
  spine c=[.region i16 p.nC.toArray false,p.cnd,.block p.k5 b]∧spine b = .region i17 p.kZ.toArray false::p.bs∧p.nC=p.nxo::p.x9∧p.nxo.op = .next p.L8 false∧p.nxo.guard=none ∧
   p.kZ=p.eno::p.yB∧p.eno.op = .entry p.Df∧p.eno.guard=none∧p.k=k:=by
 unfold afI at h
 split at h
 ·rename_i i0 ops cnd k5 b0 e
  split at h
  ·rename_i o0 tl0 e2
   split at h
   ·rename_i e3 e4
    split at h
    ·rename_i e5
     obtain ⟨f1,f2,f3,f4⟩:=Ri e5
     cases h
     refine ⟨?_,f1,rfl,e4,e3,f2,f3,f4,rfl⟩
     rw [e,← e2]
    ·cases h
   ·cases h
  ·cases h
 ·cases h
def afJ (c:Code) (cs:List Code):Option RgF:=match c,cs with
 | .region i ops false,.block k (.loop Lc)::rest=>(match Fz ops.toList with
   | some (init,o)=>(match o.guard,o.op with
     | none,.range ty x=>(match afI k Lc with
       | some (i16,i17,b,p)=>some ⟨[],i,ops.toList,init,o,ty,x,i16,i17,Lc,b,p,rest⟩
       | none=>none)
     | _,_=>none)
   | none=>none)
 | _,_=>none
def zS:List Code→Option RgF
 | []=>none
 | c::cs=>match afJ c cs with
   | some F=>some F
   | none=>match zS cs with
     | some F=>some ⟨c::F.pre,F.i15,F.vV,F.init,F.rg,F.ty,F.mop,F.i16,F.i17,F.Lc,F.Bc,F.p,F.rest⟩
     | none=>none
structure RgF.OK (F:RgF) (cs:List Code):Prop where
 sp:cs=F.pre ++ .region F.i15 F.vV.toArray false :: .block F.p.k (.loop F.Lc)::F.rest
 a15:F.vV=F.init++[F.rg]
 op:F.rg.op = .range F.ty F.mop
 gd:F.rg.guard=none
 lp:spine F.Lc=[.region F.i16 F.p.nC.toArray false,F.p.cnd,.block F.p.k5 F.Bc]∧spine F.Bc = .region F.i17 F.p.kZ.toArray false::F.p.bs∧F.p.nC=F.p.nxo::F.p.x9∧F.p.nxo.op = .next F.p.L8 false∧F.p.nxo.guard=none ∧
   F.p.kZ=F.p.eno::F.p.yB∧F.p.eno.op = .entry F.p.Df∧F.p.eno.guard=none
theorem YT {c:Code} {cs:List Code} {F:RgF} (h:afJ c cs=some F):F.OK (c::cs):=by
 unfold afJ at h
 split at h
 ·rename_i i ops k Lc rest
  split at h
  ·rename_i init o e
   split at h
   ·rename_i e3 e4
    split at h
    ·rename_i e5
     obtain ⟨f1,f2,f3,f4,f5,f6,f7,f8,f9⟩:=YS e5
     cases h
     subst f9
     exact ⟨rfl,DR e,e4,e3,f1,f2,f3,f4,f5,f6,f7,f8⟩
    ·cases h
   ·cases h
  ·cases h
 ·cases h
theorem DT:∀ {cs:List Code} {F:RgF},zS cs=some F→F.OK cs
 | [],F,h=>by cases h
 | c::cs,F,h=>by
   unfold zS at h
   split at h
   ·rename_i e
    cases h
    exact YT e
   ·split at h
    ·rename_i F1 e
     cases h
     obtain ⟨f1,f2,f3,f4,f5⟩:=DT e
     exact ⟨congrArg (c::·) f1,f2,f3,f4,f5⟩
    ·cases h
section
variable {P:Program} {T:Nat→TE} {w0:World} {ng:Nat} {nt:Nat}
theorem nU {ann:Nat→List DI} (c:Code):dG P T w0 ng nt ann c→∀ d∈spine c,dG P T w0 ng nt ann d:=by
 induction c with
 | seq a b iha ihb=>exact fun h d hd=>(List.mem_append.1 hd).elim (iha h.1 d) (ihb h.2 d)
 | _=>intro h d hd;rw [List.mem_singleton.1 hd];exact h
theorem Step.walk {g:Gh} {hp:B→Option Obj} {t:Tr Obj} {nx:B} {w:World} (h:HR T w0 ng g hp nx w) (hs:Sub t hp) (o:Go.Obj):Step T w0 ng g hp t nx w (cu g nx ⟨w.heap.size,0,0⟩) hp t nx.inc (w.alloc o):=by
 have hnx:=B.eH nx
 have hext:Ext g (cu g nx ⟨w.heap.size,0,0⟩) nx.num:=jG (Nat.le_refl _)
 have hg:∀ id o,hp id=some o→cu g nx ⟨w.heap.size,0,0⟩ id=g id:=fun id o ho=>hext id (h.obj id o ho).1
 have hold:∀ b,b<w.heap.size→(w.alloc o).heap[b]?=w.heap[b]?:=fun b hb=>heap_alloc_old w o hb
 have hsz:w.heap.size≤(w.alloc o).heap.size:=(iD (ng:=ng) w o).size
 refine ⟨hext,by omega,⟨h.os,h.tape,h.output,Nat.le_trans h.size hsz,fun b hb=>(hold b (Nat.lt_of_lt_of_le hb h.size)).trans (h.old b hb),fun id x hx=>?_,fun id id' x x' hx hx' hne hro=>?_,fun id x hx hro=>?_,fun i hi=>?_,?_⟩,
  hs,fun _ _ _=>rfl,fun _ _ h=>h,hsz,fun _=>Nat.le_refl _,fun b hb _=>hold b hb,fun id x h1 h2 => .inr ⟨id,x,h1,h2,by rw [hg id x (hs id x h1)]⟩,fun id x h1 h2=>absurd (h.obj id x h1).1 (Nat.not_lt.2 h2)⟩
 ·obtain ⟨q1,q2⟩:=h.obj id x hx
  exact ⟨by omega,q2.mono hext (by omega) q1 (hold _ q2.blk)⟩
 ·rw [hg id x hx,hg id' x' hx'];exact h.sep id id' x x' hx hx' hne hro
 ·rw [hg id x hx];exact h.new id x hx hro
 ·have:(bOf i).num<nx.num:=by rw [nX];exact Nat.lt_of_lt_of_le hi h.ngx
  rw [hext _ this];exact h.glob i hi
 ·have:=h.ngx;omega
theorem Step.wider {g g':Gh} {hp hp':B→Option Obj} {t t':Tr Obj} {nx nx':B} {w w':World} {m:B} {o:Obj} (hm:m.get t=some o) (h:Step T w0 ng g hp (m.put t none) nx w g' hp' t' nx' w') (hmn:m.num<nx.num) (hm':hp' m=some o) :
  Step T w0 ng g hp t nx w g' hp' (m.put t' (some o)) nx' w':=by
 have none':∀ i:B,i.get t=none→i.get (m.put t none)=none:=fun i hi=>by
  rw [B.get_put];split
  ·rfl
  ·exact hi
 have some':∀ (i:B) x,i.get (m.put t none)=some x→i.get t=some x:=fun i x hi=>by
  rw [B.get_put] at hi
  split at hi
  ·cases hi
  ·exact hi
 refine ⟨h.ext,h.le,h.hr,fun i x hx=>?_,fun i hi hn=>h.fr i hi (none' i hn),fun i hi hn=>?_,h.sz,h.dr,fun b hb hn=>h.un b hb fun i x h1 h2=>hn i x (some' i x h1) h2,fun i x h1 h2=>?_,fun i x h1 h2=>?_⟩
 ·rw [B.get_put] at hx
  split at hx
  ·rename_i e;rw [e,hm'];exact hx
  ·exact h.sub i x hx
 ·rw [B.get_put,if_neg (fun e=>by rw [e,hm] at hn;cases hn)]
  exact h.dm i hi (none' i hn)
 ·rw [B.get_put] at h1
  split at h1
  ·rename_i e
   cases h1
   exact .inr ⟨m,o,hm,h2,by rw [e,h.ext m hmn]⟩
  ·rcases h.pl i x h1 h2 with q | ⟨i0,o0,q1,q2,q3⟩
   ·exact .inl q
   ·exact .inr ⟨i0,o0,some' _ _ q1,q2,q3⟩
 ·rcases h.pl2 i x h1 h2 with q | ⟨i0,o0,q1,q2⟩
  ·exact .inl q
  ·exact .inr ⟨i0,o0,some' _ _ q1,q2⟩
end
noncomputable def DK (T:Nat→TE) (ng:Nat) (ann:Nat→List DI) (call:Cl) (N:Nat) (F:RgF) (fin:X→KE) (env:Tr V) (t:Tr Obj) (nx:B):R:=
 (SI T ng ann F.pre).run call N env t nx (fun env t nx=>(CY T ng F.vV F.init).run call env t nx fun env t nx=>
  pW ((bF ng F.mop).run env) (fun m=>Np (m.get t) (fun kt es=>m.iq t none fun t=>oC F.rg.dst env (.ptr nx 0) fun env=>nx.Vf fun nx1=>
   oP T ng ann call N F.p nx es (fun env t nx=>m.iq t (some (.map kt es)) fun t=>(SI T ng ann F.rest).run call N env t nx (fin .nrm) fin) (fun x env t nx=>m.iq t (some (.map kt es)) fun t=>fin x env t nx)
    (Nat.succ es.length) (List.range es.length) env t nx1) (.bad 136)) (.bad 137)) fin
section
variable {P:Program} {T:Nat→TE} {w0:World} {ng:Nat} {nt:Nat}
theorem TW (hT:TOK P T) {call:Cl} (hc:fU P T w0 ng call) {ann:Nat→List DI} (N:Nat) {F:RgF} {body:Code} (hF:F.OK (spine body)) {kt0 vt0:Nat} (hu:P.underlying F.ty=some (.map kt0 vt0)) (hok:dG P T w0 ng nt ann body) {fin:X→KE} {env:Tr V} {t:Tr Obj} {nx:B}
  (h:∀ n,R.bad n≠DK T ng ann call N F fin env t nx):∀ g hp a w,HR T w0 ng g hp nx w→Sub t hp→AR g nx.num nt env a →
   body.wp P (fun e a' w'=>∃ x env' t' nx',QX T w0 ng nt g hp t nx w x env' t' nx' e a' w'∧∀ n,R.bad n≠fin x env' t' nx') a w:=fun g hp a w h1 h2 h3=>by
 have hall:=nU body hok
 obtain ⟨sp,a15,op,gd,l1,l2,l3,l4,l5,l6,l7,l8⟩:=hF
 rw [sp] at hall
 have hpre:∀ c∈F.pre,dG P T w0 ng nt ann c:=fun c hc=>hall c (List.mem_append_left _ hc)
 have hr15:dG P T w0 ng nt ann (.region F.i15 F.vV.toArray false):=hall _ (by simp)
 have hlp:dG P T w0 ng nt ann F.Lc:=hall (.block F.p.k (.loop F.Lc)) (by simp)
 have hrest:∀ c∈F.rest,dG P T w0 ng nt ann c:=fun c hc=>hall c (by simp [hc])
 have hl:=nU F.Lc hlp
 rw [l1] at hl
 have hr16:dG P T w0 ng nt ann (.region F.i16 F.p.nC.toArray false):=hl _ (by simp)
 have hcnd:dG P T w0 ng nt ann F.p.cnd:=hl _ (by simp)
 have hbc:dG P T w0 ng nt ann F.Bc:=hl (.block F.p.k5 F.Bc) (by simp)
 have hb:=nU F.Bc hbc
 rw [l2] at hb
 have hr17:dG P T w0 ng nt ann (.region F.i17 F.p.kZ.toArray false):=hb _ (by simp)
 have hbs:∀ c∈F.p.bs,dG P T w0 ng nt ann c:=fun c hc=>hb c (by simp [hc])
 have d15:∀ o∈F.vV,∀ d,o.dst=some d→d<nt:=hr15.1
 have d16:∀ o∈F.p.nC,∀ d,o.dst=some d→d<nt:=hr16.1
 have d17:∀ o∈F.p.kZ,∀ d,o.dst=some d→d<nt:=hr17.1
 generalize hr:DK T ng ann call N F fin env t nx=r at h
 unfold DK at hr
 obtain ⟨x1,env1,t1,nx1,k1,k2⟩:=zu (nt:=nt) hT hc N F.pre _ _ _ _ _ _ h hpre hr
 refine oG ?_
 rw [sp]
 generalize hQ:(fun (e:Exit) a' w'=>∃ x env' t' nx',QX T w0 ng nt g hp t nx w x env' t' nx' e a' w'∧∀ n,R.bad n≠fin x env' t' nx')=Q
 refine k1 g hp a w h1 h2 h3 _ Q fun e a1 w1 ⟨he,g1,hp1,st1,ha1⟩=>?_
 subst he
 have out:∀ x env' t' nx' g' hp' a' w',Step T w0 ng g hp t nx w g' hp' t' nx' w'→AR g' nx'.num nt env' a'→(∀ n,R.bad n≠fin x env' t' nx')→Q x.exit a' w':=fun x env' t' nx' g' hp' a' w' q1 q2 q3=>by
  subst hQ
  exact ⟨x,env',t',nx',⟨rfl,g',hp',q1,q2⟩,q3⟩
 cases x1 with
 | ex i=>exact out (.ex i) env1 t1 nx1 g1 hp1 a1 w1 st1 ha1 fun n hb=>h n (hb.trans k2)
 | ret=>exact out .ret env1 t1 nx1 g1 hp1 a1 w1 st1 ha1 fun n hb=>h n (hb.trans k2)
 | nrm=>
   have k2:(CY T ng F.vV F.init).run call env1 t1 nx1 _=r:=k2
   rw [qy] at k2
   obtain ⟨env2,t2,nx2,k3,k4⟩:=wE (P:=P) (w0:=w0) (nt:=nt) hT hc d15 h (os:=F.init) (ys:=[F.rg]) (fun o ho=>by rw [a15];exact List.mem_append_left _ ho) k2
   rw [bQ] at k3
   obtain ⟨m,hmv,k5⟩:=vT k3 (h _)
   obtain ⟨kt,es,hmt,k6⟩:=qP k5 (h _)
   rw [B.dh,qA,B.zh] at k6
   show (Code.region F.i15 F.vV.toArray false).wp P (Exit.then (wpL P Q (.block F.p.k (.loop F.Lc)::F.rest)) Q) a1 w1
   refine wp_region_lit ?_
   refine (congrArg (fun l=>wpList P F.vV.toArray (Exit.then (wpL P Q (.block F.p.k (.loop F.Lc)::F.rest)) Q) l a1 w1) a15).mpr ?_
   refine k4 g1 hp1 a1 w1 st1.hr st1.sub ha1 _ fun g2 hp2 a2 w2 st2 ha2=>?_
   have hr2:=st2.hr
   have hmh:hp2 m=some (.map kt es):=st2.sub m _ hmt
   obtain ⟨hmn,ents,clock,q1,q2,q3,q4,q5⟩:=hr2.obj m _ hmh
   have hmop:a2.eval F.mop = .map (some (g2 m).b):=by
    have:=ha2.eval hr2 F.mop
    rw [hmv] at this
    generalize a2.eval F.mop=u at this
    cases this
    rfl
   have hrun:=run_range_map (P:=P) w2 F.ty kt0 vt0 (g2 m).b ents clock hu q1
   have hex:(execOp a2.eval F.rg).run P w2 = .ok (.value (.pointer (some ⟨w2.heap.size,0,none⟩))) (w2.alloc (.mapIter (some (g2 m).b) clock #[] clock)):=by simp [execOp,op,hmop,hrun,Result.andThen]
   unfold wpList
   rw [if_pos (by simp [Region.wanted,gd])]
   refine .inl ?_
   unfold Oper.wp
   rw [hex]
   show (Code.block F.p.k (.loop F.Lc)).wp P (Exit.then (wpL P Q F.rest) Q) (a2.put F.rg.dst (.pointer (some ⟨w2.heap.size,0,none⟩))) (w2.alloc (.mapIter (some (g2 m).b) clock #[] clock))
   have hs2:Sub (m.put t2 none) hp2:=fun i x hx=>by
    rw [B.get_put] at hx
    split at hx
    ·cases hx
    ·exact st2.sub i x hx
   have st3:=Step.walk hr2 hs2 (.mapIter (some (g2 m).b) clock #[] clock)
   have hnx:=B.eH nx2
   have hgn:cu g2 nx2 ⟨w2.heap.size,0,0⟩ nx2=⟨w2.heap.size,0,0⟩:=by simp [cu]
   have hgo:∀ id:B,id.num<nx2.num→cu g2 nx2 ⟨w2.heap.size,0,0⟩ id=g2 id:=jG (Nat.le_refl _)
   have hd:∀ d,F.rg.dst=some d→d<nt:=d15 F.rg (by rw [a15];simp)
   have ha3:AR (cu g2 nx2 ⟨w2.heap.size,0,0⟩) nx2.inc.num nt (oU F.rg.dst env2 (.ptr nx2 0)) (a2.put F.rg.dst (.pointer (some ⟨w2.heap.size,0,none⟩))):=by
    refine (ha2.mono st3.ext st3.le).put hd ?_
    have:=RV.ptr (g:=cu g2 nx2 ⟨w2.heap.size,0,0⟩) (n:=nx2.inc.num) nx2 0 (by omega)
    rw [hgn] at this
    exact this
   have hit:It w0 (cu g2 nx2 ⟨w2.heap.size,0,0⟩) hp2 (m.put t2 none) nx2.inc (w2.alloc (.mapIter (some (g2 m).b) clock #[] clock)) m nx2 kt es ents clock (List.range es.length):=by
    refine ⟨hmh,B.eP _ _ _,by omega,by rw [hgn],by rw [hgn];simp,fun id o ho=>?_,by rw [hgn];exact hr2.size,?_,⟨#[],?_,fun i e hi=>?_⟩,fun i hi=>?_⟩
    ·rw [hgn,hgo id (hr2.obj id o ho).1]
     have:=(hr2.obj id o ho).2.blk
     simp only
     omega
    ·rw [hgo m hmn,heap_alloc_old _ _ (hr2.obj m _ hmh).2.blk];exact q1
    ·rw [hgn,hgo m hmn];exact heap_alloc_new _ _
    ·have:=(Array.getElem?_eq_some_iff.1 hi).1
     simp only [List.mem_range,← q2]
     constructor
     ·intro hm;simp at hm
     ·intro hn;exact absurd this hn
    ·rw [q2];exact List.mem_range.1 hi
   have hloop:=DN (P:=P) (w0:=w0) (nt:=nt) hT hc N l1 l2 l3 l4 l5 l6 l7 l8 d16 d17 hcnd hbs _ _ _ _ _ _ h k6 _ _ _ _ st3 ha3 hit (by rw [hgn];exact Nat.le_refl _)
   refine wp_block (wp_mono hloop.wp fun e a4 w4 ⟨x,env4,t4,nx4,g4,hp4,he,hx,st4,ha4,hm4,hn4,hnb⟩=>?_)
   subst he
   have st5:=st1.trans (st2.trans (Step.wider hmt st4 hmn hm4))
   cases x with
   | nrm=>exact absurd rfl hx
   | ret=>
     refine out .ret env4 (m.put t4 (some (.map kt es))) nx4 g4 hp4 a4 w4 st5 ha4 fun n hb=>hnb n ?_
     rw [hb]
     show _=B.iq m t4 _ _
     rw [B.dh]
   | ex i=>
     have hnb:∀ n,R.bad n≠jr (Nat.beq i F.p.k) (B.iq m t4 (some (.map kt es)) fun t=>(SI T ng ann F.rest).run call N env4 t nx4 (fin .nrm) fin) (B.iq m t4 (some (.map kt es)) fun t=>fin (.ex i) env4 t nx4):=hnb
     rw [jc,aO,B.dh,B.dh] at hnb
     by_cases hi:i=F.p.k
     ·rw [if_pos (beq_iff.2 hi)] at hnb
      simp only [X.exit,Exit.inBlock,if_pos hi]
      obtain ⟨x6,env6,t6,nx6,k7,k8⟩:=zu (nt:=nt) hT hc N F.rest _ _ _ _ _ _ hnb hrest rfl
      have:=k7 g4 hp4 a4 w4 st5.hr st5.sub ha4 [] Q fun e6 a6 w6 ⟨he6,g6,hp6,st6,ha6⟩=>by
       subst he6
       have o6:=out x6 env6 t6 nx6 g6 hp6 a6 w6 (st5.trans st6) ha6 fun n hb=>hnb n (by
        rw [hb,← k8]
        cases x6<;>rfl)
       cases x6<;>exact o6
      rw [List.append_nil] at this
      exact this
     ·rw [if_neg (fun hb=>hi (beq_iff.1 hb))] at hnb
      simp only [X.exit,Exit.inBlock,if_neg hi]
      exact out (.ex i) env4 (m.put t4 (some (.map kt es))) nx4 g4 hp4 a4 w4 st5 ha4 hnb
end
noncomputable def F8:List Nat→Bool
 | []=>true
 | x::l=>and (not (dR x l)) (F8 l)
noncomputable def N9 (F:Fact):List (Nat×FO):=F.post++F.pre.filter fun x=>dR x.1 F.same
noncomputable def okR (r:R):Bool:=R.rec (motive:=fun _=>Bool) (fun _=>false) (fun _ _ _ _=>true) r
noncomputable def Ua (T:Nat→TE) (ng:Nat) (res:List ResultVar) (F:Fact):X→KE:=fun x env t nx=>jr (XB F (Na x res T ng env t nx)) (.ok .nrm .lf .lf ⟨0⟩) (.bad 140)
noncomputable def rgB (T:Nat→TE) (FF:Nat→Option FC) (ng N n:Nat) (fe:FE) (ty:Nat) (F:Fact):Bool:=match zS (spine fe.body) with
 | some G=>and (Nat.beq G.ty ty) (and (Nat.ble F.args.length fe.nt) (I9 F.pre .lf fun t=>okR (Sz F.args 0 .lf fun env=>DK T ng fe.ann (mZ T FF ng N n) N G (Ua T ng fe.res F) env t ⟨F.m⟩)))
 | none=>false
noncomputable def Gx (T:Nat→TE) (FF:Nat→Option FC) (ng N n:Nat) (fe:FE) (ty:Nat) (F:Fact):Bool:=
 and (and (Nat.ble ng F.m) (Nat.ble F.m F.n)) (and (and (List.all F.pre fun x=>or (dR x.1 F.gone) (dR x.1 F.same)) (and (List.all F.gone fun i=>and (dR i (F.pre.map (·.1))) (not (dR i F.same))) (List.all F.post fun x=>or (Nat.ble F.m x.1) (dR x.1 (F.pre.map (·.1))))))
  (and (F8 ((N9 F).map (·.1))) (rgB T FF ng N n fe ty F)))
theorem wL:∀ {l:List (Nat×FO)},F8 (l.map (·.1))=true→∀ x∈l,∀ t:Tr Obj,(bOf x.1).get (fG l t)=some x.2.obj
 | [],_,x,hx,_=>by cases hx
 | (a,fo)::l,h,x,hx,t=>by
   obtain ⟨h1,h2⟩:=aB (show and (not (dR a (l.map (·.1)))) (F8 (l.map (·.1)))=true from h)
   have h1:dR a (l.map (·.1))=false:=by cases hb:dR a (l.map (·.1)) with | false=>rfl | true=>rw [hb] at h1;cases h1
   obtain ⟨e1,e2⟩:=qB (fo:=fo) h1 t
   rcases List.mem_cons.1 hx with rfl | hx
   ·exact e1
   ·have hne:bOf x.1≠bOf a:=fun e=>by
     have e:=kY e
     have:dR a (l.map (·.1))=true:=bM.2 (List.mem_map.2 ⟨x,hx,e⟩)
     rw [h1] at this;cases this
    rw [e2 _ hne]
    exact wL h2 x hx t
theorem FO.Vg (fo:FO):fo.In fo.obj:=by
 cases fo with
 | map kt es=>exact .map kt es
 | blk ro sz cs=>
   refine .blk _ _ _ _ _ _ (Nat.le_refl _) fun j v hv=>?_
   rw [bV,if_pos ⟨Nat.zero_le _,by have:=(List.getElem?_eq_some_iff.1 hv).1;omega⟩]
   exact hv
section
variable {P:Program} {T:Nat→TE} {w0:World} {ng:Nat}
theorem Sm (hT:TOK P T) {FF:Nat→Option FC} (hF:dJ P T w0 ng FF) {f:Nat} {fe:FE} (hb:au P T w0 ng f fe) {ty kt0 vt0:Nat} (hu:P.underlying ty=some (.map kt0 vt0)) {N n:Nat} {F:Fact} (h:Gx T FF ng N n fe ty F=true):bg P T w0 ng f F:=by
 obtain ⟨h1,h2⟩:=aB h
 obtain ⟨h3,h4⟩:=aB h1
 obtain ⟨h5,h6⟩:=aB h2
 obtain ⟨h7,h8⟩:=aB h5
 obtain ⟨h9,h10⟩:=aB h8
 obtain ⟨hnd,h11⟩:=aB h6
 have hmem:∀ i,dR i (F.pre.map (·.1))=true→∃ fo,(i,fo)∈F.pre:=fun i hi=>by
  obtain ⟨x,hx,hxi⟩:=List.mem_map.1 (bM.1 hi)
  exact ⟨x.2,by rw [← hxi];exact hx⟩
 have hgs:∀ i,dR i F.gone=true→i∈F.same→False:=fun i hi hs=>by
  have:=(aB (List.all_eq_true.1 h9 i (bM.1 hi))).2
  rw [Bool.not_eq_true',← Bool.not_eq_true] at this
  exact this (bM.2 hs)
 refine ⟨aT.1 h3,aT.1 h4,fun x hx=>(D5 (List.all_eq_true.1 h7 x hx)).imp bM.1 bM.1,fun i hi=>hmem i (aB (List.all_eq_true.1 h9 i hi)).1,fun x hx=>(D5 (List.all_eq_true.1 h10 x hx)).imp aT.1 (hmem x.1),?_⟩
 refine ⟨fG (N9 F) .lf,?_,fun x hx=>⟨_,wL hnd x (List.mem_append_left _ hx) .lf,FO.Vg _⟩,fun x hx hs=>⟨_,wL hnd x (List.mem_append_right _ (List.mem_filter.2 ⟨hx,bM.2 hs⟩)) .lf,FO.Vg _⟩⟩
 have h11:rgB T FF ng N n fe ty F=true:=h11
 unfold rgB at h11
 cases hG:zS (spine fe.body) with
 | none=>rw [hG] at h11;cases h11
 | some G=>
   rw [hG] at h11
   obtain ⟨e1,h12⟩:=aB (show and (Nat.beq G.ty ty) (and (Nat.ble F.args.length fe.nt) (I9 F.pre .lf fun t=>okR (Sz F.args 0 .lf fun env=>DK T ng fe.ann (mZ T FF ng N n) N G (Ua T ng fe.res F) env t ⟨F.m⟩)))=true from h11)
   obtain ⟨e2,h13⟩:=aB h12
   rw [qE,GX] at h13
   have hbad:∀ k,R.bad k≠DK T ng fe.ann (mZ T FF ng N n) N G (Ua T ng fe.res F) (eY F.args .lf 0) (fG F.pre .lf) ⟨F.m⟩:=fun k hk=>by rw [← hk] at h13;cases h13
   have hty:=beq_iff.1 e1
   obtain ⟨fn,b1,b2,b3,b4,b5,b6⟩:=hb
   refine ⟨⟨fn,b1,b2,by rw [b3];rfl⟩,fun g hp w vs g1 g2 g3=>calls_of_wp b1 b3 ?_⟩
   have hlen:vs.length=F.args.length:=g3.1
   have hle:=aT.1 e2
   have ha:AR g (B.num ⟨F.m⟩) fe.nt (eY F.args .lf 0) { tmps:=vs.toArray++Array.replicate (fn.ntmps-vs.toArray.size) Go.undef,defers:=[] }:=by
    refine ⟨rfl,by simp [b5];omega,fun i c hc=>?_⟩
    rw [bV] at hc
    split at hc
    ·rename_i hi
     rw [Nat.sub_zero] at hc
     have hlt:i<vs.length:=by omega
     have e:(vs.toArray++Array.replicate (fn.ntmps-vs.toArray.size) Go.undef).getD i Go.undef=vs[i]:=by
      have:i<vs.toArray.size:=by simpa using hlt
      simp [Array.getElem?_append_left this,hlt]
     rw [e]
     exact g3.2 i c vs[i] hc (List.getElem?_eq_getElem hlt)
    ·rw [B.dF] at hc;cases hc
   refine wp_mono (TW (nt:=fe.nt) hT (pU hT hF N n) N (DT hG) (by rw [hty];exact hu) b6 hbad g hp _ w g1 g2 ha) fun e a' w' ⟨x,env1,t1,nx1,⟨he,g',hp',st,ha'⟩,hfin⟩=>?_
   subst he
   have hfin:∀ k,R.bad k≠jr (XB F (Na x fe.res T ng env1 t1 nx1)) (.ok .nrm .lf .lf ⟨0⟩) (.bad 140):=hfin
   rw [jc,aO] at hfin
   have hchk:XB F (Na x fe.res T ng env1 t1 nx1)=true:=by
    by_cases hb:XB F (Na x fe.res T ng env1 t1 nx1)=true
    ·exact hb
    ·rw [if_neg hb] at hfin;exact absurd rfl (hfin 140)
   generalize hend:Na x fe.res T ng env1 t1 nx1=r at hchk
   cases r with
   | bad k=>cases hchk
   | ret v t nx=>
     obtain ⟨k1,k2⟩:=aB (show and (eqX 4 F.v v) (and (Nat.beq F.n nx.n) (and (List.all F.post fun x=>inO x.2 ((bOf x.1).get t)) (List.all F.pre fun x=>or (dR x.1 F.gone) (inO x.2 ((bOf x.1).get t)))))=true from hchk)
     obtain ⟨k3,k4⟩:=aB k2
     obtain ⟨k5,k6⟩:=aB k4
     have ev:=xk 4 _ _ k1
     have en:nx=⟨F.n⟩:=B.dD (show nx.n=F.n from (beq_iff.1 k3).symm)
     have less:∀ (i:B) o,i.get (fG (N9 F) .lf)=some o→∃ (fo:FO) (o':Obj),o=fo.obj∧i.get t=some o'∧fo.In o':=fun i o hi=>by
      rcases oZ _ _ _ _ hi with ⟨fo,q1,q2⟩ | q1
      ·have hin:inO fo ((bOf i.num).get t)=true:=by
        rcases List.mem_append.1 q1 with q | q
        ·exact List.all_eq_true.1 k5 _ q
        ·obtain ⟨q3,q4⟩:=List.mem_filter.1 q
         rcases D5 (List.all_eq_true.1 k6 _ q3) with q5 | q5
         ·exact absurd (bM.1 q4) (fun q6=>hgs _ q5 q6)
         ·exact q5
       rw [Nl] at hin
       obtain ⟨o1,q3,q4⟩:=wQ hin
       exact ⟨fo,o1,q2,q3,q4⟩
      ·rw [B.dF] at q1;cases q1
     have hb:∀ n,FR.bad n ≠ .ret v t nx:=fun n h=>by cases h
     have fin:resV fe.res T ng env1 t1 (fun v => .ret v t1 nx1) = .ret v t nx→a'.defers=[]∧∃ u,(results fn a'.tmps).run P w' = .ok u w'∧∃ g' hp' val,Ending.returned u = .returned val∧Step T w0 ng g hp (fG F.pre .lf) ⟨F.m⟩ w g' hp' (fG (N9 F) .lf) ⟨F.n⟩ w'∧RV g' (B.num ⟨F.n⟩) F.v val:=fun k6=>by
      obtain ⟨rs,k7,k8⟩:=uq (P:=P) (w0:=w0) (ng:=ng) (nt:=fe.nt) (nx:=nx1) hT hb k6
      obtain ⟨us,r1,r2⟩:=k8 g' hp' a' w' st.hr st.sub ha'
      rw [← b4] at r1
      have main:∃ u,(results fn a'.tmps).run P w' = .ok u w'∧RV g' nx1.num v u∧t1=t∧nx1=nx:=by
       refine ⟨_,kP r1,?_⟩
       match rs,us,r2,k7 with
       | [c],[u],r2,k7=>
         have k7:FR.ret c t1 nx1 = .ret v t nx:=k7
         cases k7
         exact ⟨r2.2 0 _ u rfl rfl,rfl,rfl⟩
       | [],[],r2,k7=>
         have k7:FR.ret (.tup []) t1 nx1 = .ret v t nx:=k7
         cases k7
         exact ⟨.tup _ _ rfl fun i c u hc hu=>by simp at hc,rfl,rfl⟩
       | c::c2::cs,u::u2::us,r2,k7=>
         have k7:FR.ret (.tup (c::c2::cs)) t1 nx1 = .ret v t nx:=k7
         cases k7
         exact ⟨.tup _ _ (by simpa using r2.1) fun i c u hc hu=>r2.2 i c u hc (by simpa using hu),rfl,rfl⟩
       | [],_::_,r2,_=>exact absurd r2.1 (by simp)
       | [_],[],r2,_=>exact absurd r2.1 (by simp)
       | [_],_::_::_,r2,_=>exact absurd r2.1 (by simp)
       | _::_::_,[],r2,_=>exact absurd r2.1 (by simp)
       | _::_::_,[_],r2,_=>exact absurd r2.1 (by simp)
      obtain ⟨u,m0,m1,m2,m3⟩:=main
      subst m2;subst m3
      obtain ⟨hp'',st'⟩:=st.less less
      rw [en] at st' m1
      rw [← ev] at m1
      exact ⟨ha'.defers,_,m0,g',hp'',_,rfl,st',m1⟩
     cases x with
     | nrm=>exact fin hend
     | ret=>exact fin hend
     | ex i=>exact absurd hend (hb _)
theorem JV (hT:TOK P T) {FF:Nat→Option FC} (hF:dJ P T w0 ng FF) {f:Nat} {fe:FE} (hb:au P T w0 ng f fe) {ty kt0 vt0:Nat} (hu:P.underlying ty=some (.map kt0 vt0)) {N n:Nat} {Fs:List Fact} (h:Fs.all (Gx T FF ng N n fe ty)=true):∀ F∈Fs,bg P T w0 ng f F:=
 fun F hm=>Sm hT hF hb hu (List.all_eq_true.1 h F hm)
end
end Go.Sim
namespace Go.Proofs.YthckjidmpbiccaaGreatDoor
open Go Go.Sim
def z0:V := .str 4 1953658213
def z1:V := .str 4 1937007984
def z2:V := .str 5 465557741932
def z3:V := .str 4 1685022067
def z4:V := .str 1 120
def z5:V := .str 4 1852143732
def z6:V := .str 6 109299962372965
def z7:V := .str 5 448377480307
def z8:V := .str 5 499850505331
def z9:V := .str 4 1953461107
def z10:V := .str 5 444351214451
def z11:V := .str 4 1668245870
def z12:V := .str 1 48
def z13:V := .str 4 2002872692
def z14:V := .str 4 1919904869
def z15:V := .str 1 49
def z16:V := .str 1 50
def z17:V := .str 3 7827310
def z18:V := .str 4 1768843636
def z19:V := .str 4 1735352684
def z20:V := .str 4 1936024947
def z21:V := .str 5 491327153273
def z22:V := .str 0 0
def z23:V := .str 8 8387235695293260140
def z24:V := .str 1 67
def z25:V := .str 576 6259503237976136864757016322635236165569858586165393705625396260632239897741161865910007179885038344334044352209087749394462789404597182300011703006870998481259688993992020576407671322857197494150402868332309099775205805159217463248958833033530605950826958822937723514164340192284699273115424054701146929672913265426024605347719035681415905349866858872932545313496143428047988246318612242507119566292315007790991622674816667999915662107205626149337177458462173422904479464539843056297216791079570874861041242172266663898796857127375520931987518194347749871468717324159694855171405779608859327578679925162376766841920760822348704975550934281078467095657855372783998929227177959498704313731308825049083027885304575795383102562378577821749492874701956307849395355743553376807878106999886195099318882385992450500781524528426840045924714581356799250005661270471361635218330600162146715501368160366285793527619610120243334860169051016559301509903728238176408618806673243100764398565009261179747822330817804706599811036671317434699805290011511096037961255619558583594908628278945287916938192068656804058381216564327092528239026831974784733925349916191361708326945625859291636276422879496546250264242621629689514331393834318813233049435153447340465288001021423931148017169537170537947887802222269742273985944949816129356385752536563969757677218291149409224488305100826165309393517824820445260078
def z26:V := .str 3 3223600
def z27:V := .str 8 7235441220169655156
def Z0:V:=i6 0
def Z1:V:=i6 1
def Z2:V:=i6 2
def Z3:V:=i6 4
def Z4:V:=i6 5
def Z5:V:=i6 3
def Z6:V:=sn 10 2 1
def Z7:V:=sn 8 2 1
def Z8:V:=sn 11 2 1
def Z9:V:=i6 6
def Za:V:=sn 8 2 2
def Zb:V:=n6 0
def Zc:V:=sn 9 2 1
def Zd:V:=i6 7
def Ze:V:=sn 9 2 2
def Zf:V:=i6 8
def Zg:V:=sc 9 2 0 1 1
def Zh:V:=i6 12
def Zi:V:=i6 13
def Zj:V:=i6 9
def Zk:V:=sn 12 2 1
def Zl:V:=i6 10
def Zm:V:=sc 9 2 0 2 2
def Zn:V:=i6 100
def Zo:V:=i6 16
def Zp:V:=i6 14
def Zq:V:=sn 40 2 1
def Zr:V:=sn 19 2 2
def Zs:V:=sn 28 2 1
def Zt:V:=sn 30 2 1
def Zu:V:=sn 13 2 1
def Zv:V:=sn 27 2 1
def Zw:V:=sn 29 2 1
def Zx:V:=sn 31 2 1
def Zy:V:=i6 11
def Zz:V:=i6 15
def Z10:V:=sn 25 2 1
def Z11:V:=sn 41 2 1
def Z12:V:=sn 26 2 1
def Z13:V:=sn 18 2 2
def Z14:V:=sn 42 2 1
def Z15:V:=sn 43 2 1
def Z16:V:=sn 17 2 2
def Z17:V:=sn 21 2 2
def Z18:V:=sn 14 2 1
def Z19:V:=sn 23 2 2
def Z1a:V:=sn 20 2 2
def Z1b:V:=i6 17
def Z1c:V:=pt 8
def Z1d:V:=sn 32 2 1
def Z1e:V:=sn 8 3 17
def Z1f:V:=sn 12 1 1
def Z1g:V:=sn 44 2 1
def Z1h:V:=sn 15 2 1
def Z1i:V:=sn 24 2 1
def Z1j:V:=sn 51 2 2
def Z1k:V:=sn 15 2 2
def Z1l:V:=sn 22 2 2
def Z1m:V:=sn 21 1 2
def Z1n:V:=sn 19 1 2
def Z1o:V:=sn 45 2 1
def Z1p:V:=sn 50 2 2
def Z1q:V:=sn 16 2 2
def Z1r:V:=i6 19
def Z1s:V:=sn 48 2 2
def Z1t:V:=sn 49 2 2
def Z1u:V:=sn 52 2 2
def Z1v:V:=i6 27
def Z1w:V:=i6 23
def Z1x:V:=sn 20 1 2
def Z1y:V:=sn 58 2 1
def Z1z:V:=sn 60 2 1
def Z20:V:=sn 10 2 6
def Z21:V:=i6 24
def Z22:V:=i6 25
def Z23:V:=i6 26
def Z24:V:=i6 28
def Z25:V:=sn 63 2 1
def Z26:V:=sn 64 2 1
def Z27:V:=sn 11 3 6
def Z28:V:=sn 14 2 2
def Z29:V:=sn 16 2 1
def Z2a:V:=sn 59 2 1
def Z2b:V:=sn 61 2 1
def Z2c:V:=sn 13 1 6
def Z2d:V:=sn 14 1 6
def Z2e:V:=sn 15 5 2
def Z2f:V:=sn 16 5 1
def Z2g:V:=sn 18 1 2
def Z2h:V:=sn 34 2 2
def Z2i:V:=sn 67 2 1
def Z2j:V:=sn 71 2 1
def Z2k:V:=sn 73 2 1
def Z2l:V:=sn 53 2 2
def Z2m:V:=sn 23 1 2
def Z2n:V:=i6 29
def Z2o:V:=sn 65 2 1
def Z2p:V:=sn 68 2 1
def Z2q:V:=sn 69 2 1
def Z2r:V:=sn 70 2 1
def Z2s:V:=sn 22 1 2
def Z2t:V:=sn 46 2 1
def Z2u:V:=sn 15 1 1
def Z2v:V:=sn 22 1 1
def Z2w:V:=sn 36 2 2
def Z2x:V:=sn 38 2 2
def Z2y:V:=sn 66 2 1
def Z2z:V:=sn 72 2 1
def Z30:V:=sn 74 2 1
def Z31:V:=i6 18
def Z32:V:=sn 33 2 1
def Z33:V:=sn 47 2 1
def Z34:V := .agg [z23,.aj]
def Z35:V:=i6 22
def Z36:V:=sn 14 1 1
def Z37:V:=sn 17 1 1
def Z38:V:=sn 23 2 1
def Z39:V:=sn 62 2 1
def Z3a:V:=sn 75 2 1
def Z3b:V:=sn 17 1 2
def Z3c:V:=sn 21 2 1
def Z3d:V:=sn 17 2 1
def Z3e:V:=sn 56 2 1
def Z3f:V:=sc 9 3 0 1 1
def Z3g:V:=sn 57 2 1
def Z3h:V:=sn 55 2 1
def Z3i:V:=sn 76 2 1
def Z3j:V:=sn 24 1 2
def Z3k:V:=i6 20
def Z3l:V:=sn 13 1 1
def Z3m:V:=sn 16 1 1
def Z3n:V:=i6 21
def Z3o:V:=sn 19 2 1
def Z3p:V:=sn 33 2 2
def Z3q:V:=sn 35 2 2
def Z3r:V:=sn 37 2 2
def Z3s:V:=sn 54 2 1
def Z3t:V:=sn 9 3 1
def Z3u:V:=sn 13 2 2
def Z3v:V:=sn 20 2 1
def Z3w:V:=sn 22 2 1
def Z3x:V:=sn 20 1 1
def Z3y:V:=sn 46 2 2
def Z3z:V:=sn 47 2 2
def Z40:V:=sn 48 2 1
def Z41:V:=sn 49 2 1
def Z42:V:=sn 53 2 1
def Z43:V:=sn 24 3 1
def Z44:V:=sn 28 3 1
def Z45:V:=sn 25 2 2
def Z46:V:=sn 10 1 1
def Z47:V:=sn 18 1 1
def Z48:V:=sn 21 1 1
def Z49:V:=sn 34 2 1
def Z4a:V:=sn 44 2 2
def Z4b:V:=sn 45 2 2
def Z4c:V:=sn 52 2 1
def Z4d:V:=sn 32 3 1
def Z4e:V:=sn 14 3 1
def Z4f:V:=sn 16 3 1
def Z4g:V:=sn 18 3 1
def Z4h:V:=sn 20 3 1
def Z4i:V:=sn 22 3 1
def Z4j:V:=sn 26 3 1
def Z4k:V:=sn 30 3 1
def Z4l:V:=sn 32 3 2
def Z4m:V:=sn 33 3 1
def Z4n:V:=sn 35 3 1
def Z4o:V:=sn 37 3 2
def Z4p:V:=sn 39 3 1
def Z4q:V:=sn 19 1 1
def Z4r:V:=sn 54 2 2
def Z4s:V:=sn 55 2 2
def Z4t:V:=sn 50 2 1
def Z4u:V:=sn 78 2 1
def Z4v:V:=sn 12 2 2
def Z4w:V:=sn 26 2 2
def Z4x:V:=sn 11 1 1
def Z4y:V:=sn 39 2 1
def Z4z:V:=sn 80 2 1
def Z50:V:=sn 85 2 1
def Z51:V:=sn 9 1 2
def Z52:V := .agg [z12,.aj]
def Z53:V:=sn 81 2 1
def Z54:V:=sn 24 2 2
def Z55:V:=sn 23 1 1
def Z56:V:=sn 8 2 30
def Z57:V:=sn 9 3 20
def Z58:V:=sn 18 2 1
def Z59:V:=sn 51 2 1
def Z5a:V:=sn 77 2 1
def Z5b:V:=sn 79 2 1
def Z5c:V:=sn 57 2 2
def Z5d:V:=sn 36 3 1
def Z5e:V:=sn 98 2 1
def Z5f:V:=sn 96 2 1
def Z5g:V:=sc 420 1 0 17 17
def Z5h:V:=sn 16 1 6
def Z5i:V := .agg [z15,.aj]
def Z5j:V := .agg [z16,.aj]
def Z5k:V := .agg [z17,.aj]
def Z5l:V := .agg [z13,.aj]
def Z5m:V:=sn 99 2 1
def Z5n:V:=sn 82 2 1
def Z5o:V:=sn 83 2 1
def Z5p:V:=sn 84 2 1
def Z5q:V:=sn 86 2 1
def Z5r:V:=sn 87 2 1
def Z5s:V:=sn 24 1 1
def Z5t:V:=sn 27 2 2
def Z5u:V:=sn 28 2 2
def Z5v:V:=sn 29 2 2
def Z5w:V:=sn 30 2 2
def Z5x:V:=sn 31 2 2
def Z5y:V:=sn 32 2 2
def Z5z:V:=sn 41 1 2
def Z60:V:=sn 43 1 1
def Z61:V:=sn 44 1 1
def Z62:V:=sn 45 1 1
def Z63:V:=sn 46 1 1
def Z64:V:=sn 47 1 1
def Z65:V:=sn 48 1 1
def Z66:V:=sn 49 1 1
def Z67:V:=sn 50 1 1
def Z68:V:=sn 51 1 1
def Z69:V:=sn 52 1 1
def Z6a:V:=sn 53 1 1
def Z6b:V:=sn 54 1 1
def Z6c:V:=sn 55 1 1
def Z6d:V:=sn 56 1 1
def Z6e:V:=sn 8 3 20
def Z6f:V:=sn 13 3 1
def Z6g:V:=sn 15 3 1
def Z6h:V:=sn 17 3 1
def Z6i:V:=sn 19 3 1
def Z6j:V:=sn 21 3 1
def Z6k:V:=sn 23 3 1
def Z6l:V:=sn 25 3 1
def Z6m:V:=sn 27 3 1
def Z6n:V:=sn 29 3 1
def Z6o:V:=sn 31 3 2
def Z6p:V:=sn 34 3 1
def Z6q:V:=sn 36 3 2
def Z6r:V:=sn 38 3 1
def Z6s:V:=sn 62 2 2
def Z6t:V:=sc 419 1 0 17 17
def Z6u:V:=sn 11 2 2
def Z6v:V:=sn 88 2 1
def Z6w:V:=sn 89 2 1
def Z6x:V:=sn 90 2 1
def Z6y:V:=sn 91 2 1
def Z6z:V:=sn 92 2 1
def Z70:V:=sn 93 2 1
def Z71:V:=sn 94 2 1
def Z72:V:=sn 95 2 1
def Z73:V:=sn 97 2 1
def Z74:V:=sn 11 1 2
def Z75:V:=sn 39 2 2
def Z76:V:=sn 25 1 2
def Z77:V := .agg [z6,.aj]
def Z78:V := .agg [z4,.aj]
def Z79:V := .agg [z7,.aj]
def Z7a:V := .agg [z8,.aj]
def Z7b:V:=sc 8 2 0 2 2
def Z7c:V:=sn 100 2 1
def Z7d:V:=sc 20 1 0 1 1
def Z7e:V := .agg [z26,.aj]
def Z7f:V := .agg [z21,.aj]
def Z7g:V:=sc 8 2 0 1 1
def Z7h:V := .agg [z3,Za]
def Z7i:V := .agg [z0,Z7]
def Z7j:V := .agg [z2,Za]
def Z7k:V := .agg [z5,Z7]
def Z7l:V := .agg [z2,Ze]
def Z7m:V := .agg [z3,Ze]
def Z7n:V := .agg [z0,Zc]
def Z7o:V := .agg [z2,Zm]
def Z7p:V := .agg [z5,Zg]
def Z7q:V := .agg [z5,Zc]
def Z7r:V := .agg [z3,Zm]
def Z7s:V := .agg [z1,Z7]
def Z7t:V := .agg [z14,Z7]
def Z7u:V := .agg [z0,Zg]
def Z7v:V := .agg [z18,Z7]
def Z7w:V := .agg [Z1e,Ze,Z20,Z27,Z1f,Z2c,Z2d,Z2e,Z2f,Z9,bt]
def Z7x:V := .agg [z18,Zg]
def Z7y:V := .agg [z19,Za]
def Z7z:V := .agg [z11,Z7]
def Z80:V := .agg [z1,Zc]
def Z81:V := .agg [z9,Z7]
def Z82:V := .agg [z10,Z7]
def Z83:V := .agg [z14,Zc]
def Z84:V := .agg [z19,Zm]
def Z85:V := .agg [z20,Zm]
def Z86:V := .agg [Z56,Z57]
def Z87:V := .tup [Z5g,Z0]
def Z88:V := .agg [z19,Ze]
def Z89:V := .agg [z2,Za,Z3t]
def Z8a:V := .agg [Z6e,Ze,Z20,Z27,Z1f,Z2c,Z2d,Z2e,Z2f,Zd,bt]
def Z8b:V := .tup [Z6t,Z0]
def Z8c:V := .agg [z18,Zc]
def Z8d:V := .agg [z11,Zc]
def Z8e:V := .agg [z20,Za]
def Z8f:V := .agg [z2,Z19,Z5d]
def Z8g:V := .agg [z9,Zc]
def Z8h:V := .agg [z10,Zc]
def Z8i:V := .agg [z20,Ze]
def Z8j:V := .agg [z5,Z7,Z3t]
def Z8k:V := .agg [z14,Z1h,.aj]
def Y0:FO:=bk 2 [z7,.aj]
def Y1:FO:=bk 2 [z8,.aj]
def Y2:FO:=bk 2 [z12,.aj]
def Y3:FO:=bk 2 [z15,.aj]
def Y4:FO:=bk 2 [z16,.aj]
def Y5:FO:=bk 2 [z17,.aj]
def Y6:FO:=bk 4 [z4,.aj,z13,.aj]
def Y7:FO:=bk 2 [z24,.aj]
def Y8:FO:=bk 4 [z6,.aj,z13,.aj]
def Y9:FO:=bk 2 [z6,.aj]
def Ya:FO:=bk 2 [z4,.aj]
def Yb:FO:=bk 1 [Z5]
def Yc:FO:=bk 2 [z1,Z6]
def Yd:FO:=bk 4 [z6,.aj,z4,.aj]
def Ye:FO:=bk 2 [z1,Z8]
def Yf:FO:=bk 4 [z6,.aj,z9,Z6]
def Yg:FO:=bk 4 [z4,.aj,z21,.aj]
def Yh:FO:=bk 4 [z4,.aj,z12,.aj]
def Yi:FO:=bk 1 [Zh]
def Yj:FO:=bk 1 [Zi]
def Yk:FO:=bk 4 [z4,.aj,z10,Z6]
def Yl:FO:=bk 4 [z4,.aj,z26,.aj]
def Ym:FO:=bk 2 [z11,Z6]
def Yn:FO:=bk 1 [Z1]
def Yo:FO:=bk 6 [Zi,Zd,Zf,Z0,Z3,Z4]
def Yp:FO:=bk 6 [Z4,Z3,Z3,Z3,Z4,Z4]
def Yq:FO:=bk 10 [Z1,Z0,z22,.aj,Zz,Z1,Zn,z22,.aj,Z1]
def Yr:FO:=bk 5 [Z1,Z0,z21,.aj,Zo]
def Ys:FO:=bk 2 [Z2,Zj]
def Yt:FO:=bk 2 [Z5,Zl]
def Yu:FO:=bk 2 [Zy,Zh]
def Yv:FO:=bk 2 [Z9,Zp]
def Yw:FO:=bk 2 [Zd,Zf]
def Yx:FO:=bk 4 [z4,.aj,z10,Z8]
def Yy:FO:=bk 2 [z11,Z8]
def Yz:FO:=bk 4 [z6,.aj,z9,Z8]
def Y10:FO:=bk 1 [Zp]
def Y11:FO:=bk 1 [Zo]
def Y12:FO:=bk 1 [Z1b]
def Y13:FO:=bk 1 [Zj]
def Y14:FO:=bk 30 [bf,bf,bf,bf,bf,bf,bf,bf,bf,bf,bf,bf,bf,bf,bf,bf,bf,bf,bf,bf,bf,bf,bf,bf,bf,bf,bf,bf,bf,bf]
def Y15:FO:=bk 2 [z1,Z2y]
def Y16:FO:=bk 2 [z1,Z2i]
def Y17:FO:=bk 1 [Z2]
def Y18:FO:=bk 6 [Zo,Zj,Zl,Z0,Z4,Z9]
def Y19:FO:=bk 6 [Z9,Z4,Z4,Z4,Z9,Z9]
def Y1a:FO:=bk 10 [Z1,Z0,z22,.aj,Z31,Z1,Zn,z22,.aj,Z2]
def Y1b:FO:=bk 5 [Z1,Z0,z21,.aj,Z1r]
def Y1c:FO:=bk 2 [z1,Z2j]
def Y1d:FO:=bk 3 [bf,z0,Z1y]
def Y1e:FO:=bk 51 [Z0,Z0,.aj,Z2,Z0,.aj,Z2,Z1,.aj,Z2,Z2,.aj,Z2,Z5,.aj,Z2,Z3,.aj,Z2,Z4,.aj,Z5,Z1,.aj,Z5,Z2,.aj,Z5,Z3,.aj,Z5,Z4,.aj,Z3,Z0,Z1n,Z3,Z0,Z1x,Z4,Z0,Z1m,Z9,Z0,Z2v,Z3,Z0,Z2m,Z4,Z0,Z3j]
def Y1f:FO:=bk 12 [z17,.aj,z11,Z10,z11,Z12,z1,Zv,z1,Zs,z1,Zw]
def Y1g:FO:=bk 18 [Z0,z13,.aj,Z0,z9,Zt,Z0,z9,Zx,Z1,z13,.aj,Z1,z10,Z1d,Z1,z10,Z32]
def Y1h:FO:=bk 2 [z1,Z2o]
def Y1i:FO:=bk 2 [Z5,Zh]
def Y1j:FO:=bk 2 [Z3,Zi]
def Y1k:FO:=bk 2 [Zp,Zz]
def Y1l:FO:=bk 2 [Zd,Z1b]
def Y1m:FO:=bk 2 [Zj,Zl]
def Y1n:FO:=bk 3 [bf,z0,Z2a]
def Y1o:FO:=bk 51 [z14,Z6,.aj,z14,Z8,.aj,z18,Zk,.aj,z2,Z3u,Z4e,z2,Z1k,Z4f,z2,Z16,Z4g,z2,Zr,Z4h,z2,Z17,Z4i,z2,Z19,Z43,z5,Z10,Z4j,z5,Zv,Z44,z5,Zw,Z4k,z5,Zx,Z4l,z23,.aj,Z4m,z19,Z2h,Z4n,z19,Z2w,Z4o,z20,Z2x,Z4p]
def Y1p:FO:=bk 3 [bf,z0,Z41]
def Y1q:FO:=bk 2 [Z1,Z3]
def Y1r:FO:=bk 2 [Z2,Z3]
def Y1s:FO:=bk 2 [z1,Z26]
def Y1t:FO:=bk 2 [Zl,Z1r]
def Y1u:FO:=bk 2 [Zy,Z3k]
def Y1v:FO:=bk 4 [z6,.aj,z9,Z2q]
def Y1w:FO:=bk 2 [z1,Z2r]
def Y1x:FO:=bk 12 [z17,.aj,z11,Z38,z11,Z1i,z1,Z10,z1,Z12,z1,Zv]
def Y1y:FO:=bk 18 [Z0,z13,.aj,Z0,z9,Zs,Z0,z9,Zw,Z1,z13,.aj,Z1,z10,Zt,Z1,z10,Zx]
def Y1z:FO:=bk 3 [bf,z0,Z40]
def Y20:FO:=bk 3 [bf,z0,Z3h]
def Y21:FO:=bk 2 [z1,Zk]
def Y22:FO:=bk 2 [z1,Z1z]
def Y23:FO:=bk 4 [z4,.aj,z10,Z2k]
def Y24:FO:=bk 2 [z1,Z25]
def Y25:FO:=bk 3 [bf,z0,Z1g]
def Y26:FO:=bk 2 [z1,Z3s]
def Y27:FO:=bk 2 [z1,Z2p]
def Y28:FO:=bk 2 [z1,Z30]
def Y29:FO:=bk 2 [z1,Z3a]
def Y2a:FO:=bk 3 [bf,z0,Z25]
def Y2b:FO:=bk 3 [bf,z0,Z2b]
def Y2c:FO:=bk 3 [bf,z0,Z8]
def Y2d:FO:=bk 51 [z14,Zc,.aj,z14,Z6,.aj,z18,Z8,.aj,z2,Z4v,Z6f,z2,Z28,Z6g,z2,Z1q,Z6h,z2,Z13,Z6i,z2,Z1a,Z6j,z2,Z1l,Z6k,z5,Z1i,Z6l,z5,Z12,Z6m,z5,Zs,Z6n,z5,Zt,Z6o,z23,.aj,Z4d,z19,Z3p,Z6p,z19,Z3q,Z6q,z20,Z3r,Z6r]
def Y2e:FO:=bk 2 [z1,Z4y]
def Y2f:FO:=bk 3 [bf,z0,Z11]
def Y2g:FO:=bk 3 [bf,z0,Z15]
def Y2h:FO:=bk 3 [bf,z0,Z2t]
def Y2i:FO:=bk 3 [bf,z0,Z42]
def Y2j:FO:=bk 6 [bf,z0,Z3e,bf,z3,Z5c]
def Y2k:FO:=bk 6 [bf,z0,Z1z,bt,z0,Z2b]
def Y2l:FO:=bk 3 [bf,z3,Z6s]
def Y2m:FO:=bk 2 [z11,Z2z]
def Y2n:FO:=bk 2 [z1,Zs]
def Y2o:FO:=bk 51 [Z0,Z0,.aj,Z2,Z0,.aj,Z2,Z1,.aj,Z2,Z2,.aj,Z2,Z5,.aj,Z2,Z3,.aj,Z2,Z4,.aj,Z5,Z1,.aj,Z5,Z2,.aj,Z5,Z3,.aj,Z5,Z4,.aj,Z3,Z0,Z2g,Z3,Z0,Z1n,Z4,Z0,Z1x,Z9,Z0,Z48,Z3,Z0,Z2s,Z4,Z0,Z2m]
def Y2p:FO:=bk 12 [z17,.aj,z11,Z1i,z11,Z10,z1,Z12,z1,Zv,z1,Zs]
def Y2q:FO:=bk 18 [Z0,z13,.aj,Z0,z9,Zw,Z0,z9,Zt,Z1,z13,.aj,Z1,z10,Zx,Z1,z10,Z1d]
def Y2r:FO:=bk 2 [Z0,Z4]
def Y2s:FO:=bk 3 [bf,z0,Z59]
def Y2t:FO:=bk 2 [z1,Z2q]
def Y2u:FO:=bk 2 [z1,Z6x]
def Y2v:FO:=bk 2 [z1,Z6y]
def Y2w:FO:=bk 2 [z1,Z6z]
def Y2x:FO:=bk 2 [z1,Z71]
def Y2y:FO:=bk 2 [z1,Z3g]
def Y2z:FO:=bk 2 [z11,Z1y]
def Y30:FO:=bk 2 [z11,Z2a]
def Y31:FO:=bk 2 [z1,Z2b]
def Y32:FO:=bk 2 [z11,Z25]
def Y33:FO:=bk 4 [z6,.aj,z9,Z2p]
def Y34:FO:=bk 4 [z4,.aj,z10,Z2r]
def Y35:FO:=bk 4 [z6,.aj,z9,Z2z]
def Y36:FO:=bk 4 [z4,.aj,z10,Z30]
def Y37:FO:=bk 4 [z6,.aj,z9,Z2k]
def Y38:FO:=bk 4 [z4,.aj,z10,Z26]
def Y39:FO:=bk 2 [z1,Z2z]
def Y3a:FO:=bk 4 [z6,.aj,z9,Zq]
def Y3b:FO:=bk 4 [z6,.aj,z9,Z14]
def Y3c:FO:=bk 4 [z4,.aj,z10,Z1o]
def Y3d:FO:=bk 4 [z4,.aj,z10,Z33]
def Y3e:FO:=bk 2 [z11,Z4t]
def Y3f:FO:=bk 3 [bf,z3,Z1j]
def Y3g:FO:=bk 2 [z1,Z4c]
def Y3h:FO:=bk 4 [z6,.aj,z9,Z3i]
def Y3i:FO:=bk 3 [bf,z0,Z49]
def Y3j:FO:=bk 2 [z1,Z1d]
def Y3k:FO:=bk 3 [bf,z0,Zt]
def Y3l:FO:=bk 2 [Z0,Z3]
def Y3m:FO:=bk 2 [z1,Zc]
def Y3n:FO:=bk 3 [bf,z0,Z4c]
def Y3o:FO:=bk 3 [bf,z0,Z3e]
def Y3p:FO:=bk 2 [z1,Z4u]
def Y3q:FO:=bk 2 [z1,Z4z]
def Y3r:FO:=bk 2 [z1,Z53]
def Y3s:FO:=bk 3 [bf,z0,Z2y]
def Y3t:FO:=bk 4 [z6,.aj,z9,Z3g]
def Y3u:FO:=bk 4 [z4,.aj,z10,Z39]
def Y3v:FO:=bk 3 [bf,z0,Z2r]
def Y3w:FO:=bk 2 [z1,Z6w]
def Y3x:FO:=bk 2 [z1,Z73]
def Y3y:FO:=bk 30 [bf,bf,bf,bf,bf,bf,bf,bf,bf,bf,bf,bf,bt,bf,bf,bf,bf,bf,bf,bf,bf,bf,bf,bf,bf,bf,bf,bf,bf,bf]
def Y3z:FO:=bk 30 [bf,bf,bf,bf,bf,bf,bf,bf,bf,bf,bf,bf,bf,bt,bf,bf,bf,bf,bf,bf,bf,bf,bf,bf,bf,bf,bf,bf,bf,bf]
def Y40:FO:=bk 60 [z23,.aj,z18,Z8,z5,Zk,z5,Zu,z5,Z18,z5,Z1h,z5,Z29,z14,Z3d,z14,Z58,z0,Z3o,z0,Z3v,z0,Z3c,z0,Z3w,z0,Z38,z0,Z1i,z3,Z45,z3,Z4w,z3,Z5t,z3,Z5u,z3,Z5v,z3,Z5w,z19,Z5x,z19,Z5y,z2,Z3p,z2,Z2h,z2,Z3q,z2,Z2w,z2,Z3r,z2,Z2x,z20,Z75]
def Y41:FO:=bk 2 [z1,Z1y]
def Y42:FO:=bk 2 [z1,Z39]
def Y43:FO:=bk 2 [z11,Z26]
def Y44:FO:=bk 4 [z4,.aj,z10,Z3a]
def Y45:FO:=bk 4 [z4,.aj,z10,Z25]
def Y46:FO:=bk 2 [z11,Z2o]
def Y47:FO:=bk 60 [Z0,Z0,.aj,Z1,Z0,.aj,Z2,Z0,.aj,Z2,Z1,.aj,Z2,Z2,.aj,Z2,Z5,.aj,Z2,Z3,.aj,Z2,Z4,.aj,Z5,Z0,.aj,Z5,Z1,.aj,Z5,Z2,.aj,Z5,Z5,.aj,Z5,Z3,.aj,Z5,Z4,.aj,Z3,Z0,Z3b,Z3,Z0,Z2g,Z4,Z0,Z1n,Z9,Z0,Z7d,Z3,Z0,Z1m,Z4,Z0,Z2s]
def Y48:FO:=bk 2 [z1,Z3d]
def Y49:FO:=bk 4 [z6,.aj,z9,Z3h]
def Y4a:FO:=bk 3 [bf,z0,Z2p]
def Y4b:FO:=bk 4 [z6,.aj,z9,Z50]
def Y4c:FO:=bk 2 [z1,Z5f]
def Y4d:FO:=bk 3 [bf,z0,Z1o]
def Y4e:FO:=bk 3 [bf,z0,Z33]
def Y4f:FO:=bk 3 [bf,z0,Z3s]
def Y4g:FO:=bk 2 [z11,Z5b]
def Y4h:FO:=bk 2 [z1,Z5n]
def Y4i:FO:=bk 2 [z1,Z5o]
def Y4j:FO:=bk 3 [bf,z0,Z26]
def Y4k:FO:=bk 3 [bf,z0,Z2k]
def Y4l:FO:=bk 2 [z1,Z72]
def Y4m:FO:=bk 2 [z1,Z5e]
def Y4n:FO:=bk 3 [bf,z0,Z3i]
def Y4o:FO:=bk 2 [z11,Z5n]
def Y4p:FO:=bk 2 [z1,Z5p]
def Y4q:FO:=bk 4 [z6,.aj,z9,Z5q]
def Y4r:FO:=bk 4 [z4,.aj,z10,Z6v]
def Y4s:FO:=bk 2 [z1,Z70]
def Y4t:FO:=bk 3 [bf,z0,Z6]
def Y4u:FO:=bk 60 [z23,.aj,z18,Z6,z5,Z8,z5,Zk,z5,Zu,z5,Z18,z5,Z1h,z14,Z29,z14,Z3d,z0,Z58,z0,Z3o,z0,Z3v,z0,Z3c,z0,Z3w,z0,Z38,z3,Z54,z3,Z45,z3,Z4w,z3,Z5t,z3,Z5u,z3,Z5v,z19,Z5w,z19,Z5x,z2,Z5y,z2,Z3p,z2,Z2h,z2,Z3q,z2,Z2w,z2,Z3r,z20,Z2x]
def Y4v:FO:=bk 4 [z6,.aj,z9,Z2i]
def Y4w:FO:=bk 4 [z4,.aj,z10,Z2q]
def Y4x:FO:=bk 4 [z6,.aj,z9,Z2j]
def Y4y:FO:=bk 4 [z4,.aj,z10,Z2j]
def Y4z:FO:=bk 4 [z6,.aj,z9,Z2b]
def Y50:FO:=bk 4 [z6,.aj,z9,Z39]
def Y51:FO:=bk 4 [z6,.aj,z9,Z30]
def Y52:FO:=bk 60 [Z0,Z0,.aj,Z1,Z0,.aj,Z2,Z0,.aj,Z2,Z1,.aj,Z2,Z2,.aj,Z2,Z5,.aj,Z2,Z3,.aj,Z2,Z4,.aj,Z5,Z0,.aj,Z5,Z1,.aj,Z5,Z2,.aj,Z5,Z5,.aj,Z5,Z3,.aj,Z5,Z4,.aj,Z3,Z0,Z3b,Z3,Z0,Z2g,Z4,Z0,Z1n,Z9,Z0,Z3x,Z3,Z0,Z1m,Z4,Z0,Z2s]
def Y53:FO:=bk 51 [Z0,Z0,.aj,Z2,Z0,.aj,Z2,Z1,.aj,Z2,Z2,.aj,Z2,Z5,.aj,Z2,Z3,.aj,Z2,Z4,.aj,Z5,Z1,.aj,Z5,Z2,.aj,Z5,Z3,.aj,Z5,Z4,.aj,Z3,Z0,Z3b,Z3,Z0,Z2g,Z4,Z0,Z1n,Z9,Z0,Z3x,Z3,Z0,Z1m,Z4,Z0,Z2s]
def Y54:FO:=bk 4 [z6,.aj,z9,Z3c]
def Y55:FO:=bk 4 [z4,.aj,z10,Z3c]
def Y56:FO:=bk 4 [z6,.aj,z9,Z1d]
def Y57:FO:=bk 12 [z17,.aj,z11,Zv,z11,Zs,z1,Zw,z1,Zt,z1,Zx]
def Y58:FO:=bk 51 [Z0,Z0,.aj,Z2,Z0,.aj,Z2,Z1,.aj,Z2,Z2,.aj,Z2,Z5,.aj,Z2,Z3,.aj,Z2,Z4,.aj,Z5,Z1,.aj,Z5,Z2,.aj,Z5,Z3,.aj,Z5,Z4,.aj,Z3,Z0,Z1x,Z3,Z0,Z1m,Z4,Z0,Z2s,Z9,Z0,Z55,Z3,Z0,Z3j,Z4,Z0,Z76]
def Y59:FO:=bk 12 [z17,.aj,z11,Z12,z11,Zv,z1,Zs,z1,Zw,z1,Zt]
def Y5a:FO:=bk 18 [Z0,z13,.aj,Z0,z9,Zx,Z0,z9,Z1d,Z1,z13,.aj,Z1,z10,Z32,Z1,z10,Z49]
def Y5b:FO:=bk 4 [z4,.aj,z10,Zc]
def Y5c:FO:=bk 8 [z18,Zq,z14,Z11,z14,Z14,z0,Zq]
def Y5d:FO:=bk 4 [z6,.aj,z9,Z40]
def Y5e:FO:=bk 4 [z6,.aj,z9,Z4t]
def Y5f:FO:=bk 24 [z18,Zq,z5,Z11,z14,Z14,z14,Z15,z0,Zq,z0,Z11,z3,Z4a,z3,Z4b,z3,Z3y,z2,Z4a,z2,Z4b,z2,Z3y]
def Y5g:FO:=bk 4 [z6,.aj,z9,Z5r]
def Y5h:FO:=bk 4 [z4,.aj,z10,Z1z]
def Y5i:FO:=bk 6 [bf,z0,Z3a,bt,z0,Z3i]
def Y5j:FO:=bk 4 [z6,.aj,z9,Z5o]
def Y5k:FO:=bk 4 [z6,.aj,z9,Z5p]
def Y5l:FO:=bk 4 [z4,.aj,z10,Z50]
def Y5m:FO:=bk 4 [z4,.aj,z10,Z5q]
def Y5n:FO:=bk 4 [z6,.aj,z9,Z70]
def Y5o:FO:=bk 4 [z6,.aj,z9,Z2a]
def Y5p:FO:=bk 6 [bf,z0,Z5a,bt,z0,Z4u]
def Y5q:FO:=bk 4 [z4,.aj,z10,Z5r]
def Y5r:FO:=bk 4 [z6,.aj,z9,Z72]
def Y5s:FO:=bk 4 [z4,.aj,z10,Z5m]
def Y5t:FO:=bk 58 [z23,.aj,z18,Zq,z5,Z11,z5,Z14,z5,Z15,z5,Z1g,z5,Z1o,z14,Z2t,z14,Z33,z0,Z11,z0,Z14,z0,Z15,z0,Zq,z0,Z1g,z0,Z1o,z3,Z1s,z3,Z1t,z3,Z1p,z3,Z1j,z3,Z1u,z3,Z2l,z19,Z4r,z2,Z1s,z2,Z1t,z2,Z1p,z2,Z1j,z2,Z1u,z2,Z2l,z20,Z4s]
end Go.Proofs.YthckjidmpbiccaaGreatDoor
