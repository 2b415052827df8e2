/- Sim: a function that defers one closure, which leaves no trace when the function returns. -/
import Derived.Test.YtbhfbliodeagmaaGreatDoorSimWAnd
import Derived.Recover
set_option linter.all false
namespace Go.Sim
open Go Go.RowKit
open Go.Abs (TE TK SK TOK)
def spine:Code→List Code
 | .seq a b=>spine a++spine b
 | c=>[c]
def wpL (P:Program) (Q:Exit→Act→World→Prop):List Code→Act→World→Prop
 | [],a,w=>Q .normal a w
 | c::cs,a,w=>c.wp P (Exit.then (wpL P Q cs) Q) a w
section
variable {P:Program} {Q:Exit→Act→World→Prop}
theorem VT (c:Code):∀ (cs:List Code) (a:Act) (w:World),wpL P Q (spine c++cs) a w→c.wp P (Exit.then (wpL P Q cs) Q) a w:=by
 induction c with
 | seq a b iha ihb=>
   intro cs x w h
   rw [show spine (.seq a b)=spine a++spine b from rfl,List.append_assoc] at h
   refine wp_seq (wp_mono (iha _ x w h) fun e a' w' he=>?_)
   cases e<;>first | exact ihb cs a' w' he | exact he
 | _=>intro cs x w h;exact h
theorem KP {c:Code} {a:Act} {w:World} (h:wpL P Q (spine c) a w):c.wp P Q a w:=by
 refine wp_mono (VT (Q:=Q) c [] a w (by rw [List.append_nil];exact h)) fun e a' w' he=>?_
 cases e<;>exact he
end
def ajU:Code→Option (Nat×Oper×Oper×Call×Operand)
 | .region i ops false=>(match ops.toList with
   | [o1,o2]=>(match o2.guard,o2.dst,o2.op with
     | none,none,.defer c=>(match c.callee,c.args.toList with
       | .value x,[]=>some (i,o1,o2,c,x)
       | _,_=>none)
     | _,_,_=>none)
   | _=>none)
 | _=>none
theorem acN {c:Code} {i:Nat} {o1 o2:Oper} {cl:Call} {x:Operand} (h:ajU c=some (i,o1,o2,cl,x)) :
  c = .region i #[o1,o2] false∧o2.guard=none∧o2.dst=none∧o2.op = .defer cl∧cl.callee = .value x∧cl.args=#[]:=by
 unfold ajU at h
 split at h
 ·rename_i i0 ops
  split at h
  ·rename_i o1' o2' e1
   split at h
   ·rename_i c0 e2 e3 e4
    split at h
    ·rename_i x0 e5 e6
     cases h
     refine ⟨?_,e2,e3,e4,e5,?_⟩
     ·rw [← Array.toList_inj.1 (show ops.toList=(#[o1,o2]:Array Oper).toList from e1)]
     ·exact Array.toList_inj.1 (show _=(#[]:Array Operand).toList from e6)
    ·cases h
   ·cases h
  ·cases h
 ·cases h
noncomputable def aaf (T:Nat→TE) (ng:Nat) (ann:Nat→List DI) (call:Cl) (N fd:Nat):List Code→Bool→Tr V→Tr Obj→B→(X→Bool→KE)→R
 | [],d,env,t,nx,fin=>fin .nrm d env t nx
 | c::cs,d,env,t,nx,fin=>match ajU c with
   | some (_,o1,o2,_,x)=>(U9 T ng [o1,o2] [o1]).run call env t nx fun env t nx=>jT d (.bad 151) (KJ ((bJ ng x).run env)
     (fun g fs cp=>jT (and (Nat.beq g fd) (and (Nat.beq fs.length 0) (Nat.beq cp.length 3))) (aaf T ng ann call N fd cs true env t nx fin) (.bad 152)) (.bad 153))
   | none=>(tN T ng ann c).run call N env t nx (fun env t nx=>aaf T ng ann call N fd cs d env t nx fin) (fun x env t nx=>fin x d env t nx)
section
variable {P:Program} {T:Nat→TE} {w0:World} {ng:Nat} {nt:Nat}
def DsR (fd:Nat) (ds:List Deferred) (d:Bool):Prop:=(d=false∧ds=[])∨(d=true∧∃ vf vc:Array Value,ds=[{ target := .fn (.func fd) vc,args:=vf }]∧vf.size=0∧vc.size=3)
def QD (P:Program) (T:Nat→TE) (w0:World) (ng nt fd:Nat) (g:Gh) (hp:B→Option Obj) (t:Tr Obj) (nx:B) (w:World) (x:X) (d:Bool) (env':Tr V) (t':Tr Obj) (nx':B):Exit→Act→World→Prop:=
 fun e a' w'=>e=x.exit∧∃ g' hp' ds,Step T w0 ng g hp t nx w g' hp' t' nx' w'∧AR ds g' nx'.num nt env' a'∧DsR fd ds d
theorem yG (hT:TOK P T) {call:Cl} (hc:iT P T w0 ng call) {all:List Oper} {nt:Nat} (hd:∀ o∈all,∀ d,o.dst=some d→d<nt) {K:KE} {r:R} (hr:∀ n,R.bad n≠r) {ys:List Oper}:∀ {os:List Oper} {env:Tr V} {t:Tr Obj} {nx:B},(∀ o∈os,o∈all) →
  II os all T call ng env t nx K=r→∃ env' t' nx',K env' t' nx'=r∧∀ {ds:List Deferred} g hp a w,HR T w0 ng g hp nx w→Sub t hp→AR ds g nx.num nt env a→∀ Q:Exit→Act→World→Prop,
   (∀ g' hp' a' w',Step T w0 ng g hp t nx w g' hp' t' nx' w'→AR ds g' nx'.num nt env' a'→wpList P all.toArray Q ys a' w')→wpList P all.toArray Q (os++ys) a w
 | [],env,t,nx,_,h=>⟨env,t,nx,h,fun g hp a w h1 h2 h3 Q hQ=>hQ g hp a w (.refl h1 h2) h3⟩
 | o::os,env,t,nx,hin,h=>by
   obtain ⟨b,hw,h1,h2⟩:=jH hr h
   have hdo:∀ d,o.dst=some d→d<nt:=hd o (hin o (by simp))
   cases b with
   | false=>
     obtain ⟨env',t',nx',k1,k2⟩:=yG hT hc hd hr (os:=os) (fun o ho=>hin o (by simp [ho])) (h2 rfl)
     refine ⟨env',t',nx',k1,fun g hp a w g1 g2 g3 Q hQ=>?_⟩
     show wpList P all.toArray Q (o::(os++ys)) a w
     unfold wpList
     rw [hw.wanted g3 hd,if_neg (by simp)]
     exact k2 g hp _ w g1 g2 (g3.put hdo .undef) Q hQ
   | true=>
     obtain ⟨v,t1,nx1,k1,k2⟩:=CG (P:=P) hT o call hc _ _ _ _ r hr (h1 rfl)
     obtain ⟨env',t',nx',k3,k4⟩:=yG hT hc hd hr (os:=os) (fun o ho=>hin o (by simp [ho])) k1
     refine ⟨env',t',nx',k3,fun g hp a w g1 g2 g3 Q hQ=>?_⟩
     show wpList P all.toArray Q (o::(os++ys)) a w
     unfold wpList
     rw [hw.wanted g3 hd,if_pos rfl]
     refine .inl (k2 g hp a w g1 g2 (by rw [oG];exact g3.Nu g1 _) _ Q fun g1' hp1 v' w1 st hv=>?_)
     exact k4 g1' hp1 _ w1 st.hr st.sub ((g3.mono st.ext st.le).put hdo hv) Q fun g' hp' a' w' st' ha=>hQ g' hp' a' w' (st.trans st') ha
theorem J3 (hT:TOK P T) {call:Cl} (hc:iT P T w0 ng call) {ann:Nat→List DI} (N fd:Nat):∀ (cs:List Code) d env t nx (fin:X→Bool→KE) r,(∀ n,R.bad n≠r)→(∀ c∈cs,jV P T w0 ng nt ann c)→aaf T ng ann call N fd cs d env t nx fin=r →
  ∃ x d' env' t' nx',fin x d' env' t' nx'=r∧∀ (ds:List Deferred) g hp a w,HR T w0 ng g hp nx w→Sub t hp→AR ds g nx.num nt env a→DsR fd ds d→∀ Q:Exit→Act→World→Prop,
    (∀ e a' w',QD P T w0 ng nt fd g hp t nx w x d' env' t' nx' e a' w'→Q e a' w')→wpL P Q cs a w
 | [],d,env,t,nx,fin,r,hr,_,h=>⟨.nrm,d,env,t,nx,h,fun ds g hp a w h1 h2 h3 h4 Q hQ=>hQ .normal a w ⟨rfl,g,hp,ds,.refl h1 h2,h3,h4⟩⟩
 | c::cs,d,env,t,nx,fin,r,hr,hok,h=>by
   unfold aaf at h
   split at h
   ·rename_i i o1 o2 cl x e
    obtain ⟨rfl,q1,q2,q3,q4,q5⟩:=acN e
    rw [IJ] at h
    have hok1:=hok _ List.mem_cons_self
    obtain ⟨env1,t1,nx1,k1,k2⟩:=yG (P:=P) (w0:=w0) (nt:=nt) hT hc (all:=[o1,o2]) hok1.1 hr (os:=[o1]) (ys:=[o2]) (fun o ho=>by simp at ho;simp [ho]) h
    rw [jC] at k1
    have hd:d=false:=by
     cases d with
     | false=>rfl
     | true=>exact absurd k1 (hr _)
    subst hd
    have k1:KJ ((bJ ng x).run env1) _ _=r:=k1
    rw [cO] at k1
    obtain ⟨g0,fs,cp,hv,k3⟩:=yg k1 (hr _)
    rw [jC] at k3
    obtain ⟨hck,k4⟩:=aG k3 (hr _)
    obtain ⟨c1,c2⟩:=aB hck
    obtain ⟨c2,c3⟩:=aB c2
    obtain rfl:=beq_iff.1 c1
    obtain ⟨x',d',env',t',nx',k5,k6⟩:=J3 hT hc N g0 cs _ _ _ _ _ _ hr (fun c h=>hok c (List.mem_cons_of_mem _ h)) k4
    refine ⟨x',d',env',t',nx',k5,fun ds g hp a w h1 h2 h3 h4 Q hQ=>?_⟩
    have h4:ds=[]:=by
     rcases h4 with ⟨_,h⟩ | ⟨h,_⟩
     ·exact h
     ·cases h
    subst h4
    refine wp_region_lit (k2 g hp a w h1 h2 h3 _ fun g1 hp1 a1 w1 st1 ha1=>?_)
    have hev:=ha1.eval st1.hr x
    rw [hv] at hev
    generalize hx:a1.eval x=u at hev
    cases hev with
    | fn _ _ _ vf vc e1 e2 e3 e4=>
    have hex:(execOp a1.eval o2).run P w1 = .ok (.defer { target := .fn (.func g0) vc,args:=vf }) w1:=by simp [execOp,q3,resolve,q4,q5,hx,Deferred.ofValue]
    unfold wpList
    rw [if_pos (by simp [Region.wanted,q1])]
    refine .inl ?_
    unfold Oper.wp
    rw [hex,Oper.upon_defer,q2,ha1.defers]
    exact k6 [{ target := .fn (.func g0) vc,args:=vf }] g1 hp1 { a1 with defers:=[{ target := .fn (.func g0) vc,args:=vf }] } w1 st1.hr st1.sub ⟨rfl,ha1.size,ha1.env⟩ (.inr ⟨rfl,vf,vc,rfl,by rw [e1];exact beq_iff.1 c2,by rw [e3];exact beq_iff.1 c3⟩) Q
     fun e a' w' ⟨he,g',hp',ds',st',ha',hd'⟩=>hQ e a' w' ⟨he,g',hp',ds',st1.trans st',ha',hd'⟩
   ·rename_i e
    obtain ⟨x1,env1,t1,nx1,k1,k2⟩:=Ua (nt:=nt) hT hc N c _ _ _ _ _ _ hr (hok c List.mem_cons_self) h
    cases x1 with
    | nrm=>
      obtain ⟨x',d',env',t',nx',k3,k4⟩:=J3 hT hc N fd cs _ _ _ _ _ _ hr (fun c h=>hok c (List.mem_cons_of_mem _ h)) k2
      refine ⟨x',d',env',t',nx',k3,fun ds g hp a w h1 h2 h3 h4 Q hQ=>?_⟩
      refine wp_mono (k1 g hp a w h1 h2 h3) fun e a1 w1 ⟨he,g1,hp1,st,ha⟩=>?_
      subst he
      exact k4 ds g1 hp1 a1 w1 st.hr st.sub ha h4 Q fun e a' w' ⟨he,g',hp',ds',st',ha',hd'⟩=>hQ e a' w' ⟨he,g',hp',ds',st.trans st',ha',hd'⟩
    | ex i=>
      refine ⟨.ex i,d,env1,t1,nx1,k2,fun ds g hp a w h1 h2 h3 h4 Q hQ=>?_⟩
      refine wp_mono (k1 g hp a w h1 h2 h3) fun e a1 w1 ⟨he,g1,hp1,st,ha⟩=>?_
      subst he
      exact hQ (.exit i) a1 w1 ⟨rfl,g1,hp1,ds,st,ha,h4⟩
    | ret=>
      refine ⟨.ret,d,env1,t1,nx1,k2,fun ds g hp a w h1 h2 h3 h4 Q hQ=>?_⟩
      refine wp_mono (k1 g hp a w h1 h2 h3) fun e a1 w1 ⟨he,g1,hp1,st,ha⟩=>?_
      subst he
      exact hQ .ret a1 w1 ⟨rfl,g1,hp1,ds,st,ha,h4⟩
theorem J4 {ann:Nat→List DI} (c:Code):jV P T w0 ng nt ann c→∀ x∈spine c,jV P T w0 ng nt ann x:=by
 induction c with
 | seq a b iha ihb=>
   intro h x hx
   rcases List.mem_append.1 (show x∈spine a++spine b from hx) with hx | hx
   ·exact iha h.1 x hx
   ·exact ihb h.2 x hx
 | _=>
   intro h x hx
   obtain rfl:=List.mem_singleton.1 hx
   exact h
theorem abT (hT:TOK P T) {res:List ResultVar} {fn:Func} (e4:fn.results.toList=res) {env1:Tr V} {t1:Tr Obj} {nx1:B} {v:V} {t':Tr Obj} {nx':B} (h:resV res T ng env1 t1 (fun v => .ret v t1 nx1) = .ret v t' nx') :
  t1=t'∧nx1=nx'∧∀ {ds:List Deferred} g hp a w,HR T w0 ng g hp nx1 w→Sub t1 hp→AR ds g nx1.num nt env1 a→∃ u,(results fn a.tmps).run P w = .ok u w∧RV g nx1.num v u:=by
 have hb:∀ n,FR.bad n ≠ .ret v t' nx':=fun n h=>by cases h
 obtain ⟨rs,k7,k8⟩:=wI (P:=P) (w0:=w0) (ng:=ng) (nt:=nt) (nx:=nx1) hT hb h
 have key:t1=t'∧nx1=nx'∧∀ g us,RVL g nx1.num rs us→RV g nx1.num v (match us with | [v]=>v | vs => .tuple vs.toArray):=by
  match rs,k7 with
  | [c],k7=>
    have k7:FR.ret c t1 nx1 = .ret v t' nx':=k7
    cases k7
    refine ⟨rfl,rfl,fun g us h=>?_⟩
    match us,h with
    | [u],h=>exact h.2 0 _ u rfl rfl
    | [],h=>exact absurd h.1 (by simp)
    | _::_::_,h=>exact absurd h.1 (by simp)
  | [],k7=>
    have k7:FR.ret (.tup []) t1 nx1 = .ret v t' nx':=k7
    cases k7
    refine ⟨rfl,rfl,fun g us h=>?_⟩
    obtain rfl:=h.iI
    exact .tup _ _ rfl fun i c u hc=>by simp at hc
  | c::c2::cs,k7=>
    have k7:FR.ret (.tup (c::c2::cs)) t1 nx1 = .ret v t' nx':=k7
    cases k7
    refine ⟨rfl,rfl,fun g us h=>?_⟩
    match us,h with
    | u::u2::us,h=>exact .tup _ _ (by simpa using h.1) fun i c u hc hu=>h.2 i c u hc (by simpa using hu)
    | [],h=>exact absurd h.1 (by simp)
    | [_],h=>exact absurd h.1 (by simp)
 refine ⟨key.1,key.2.1,fun g hp a w h1 h2 h3=>?_⟩
 obtain ⟨us,r1,r2⟩:=k8 g hp a w h1 h2 h3
 rw [← e4] at r1
 refine ⟨_,mG r1,?_⟩
 have h5:=key.2.2 g us r2
 match us,r1,h5 with
 | [_],_,h=>exact h
 | [],_,h=>exact h
 | _::_::_,_,h=>exact h
def DOK (P:Program) (fd:Nat):Prop:=(∀ args w,(callFunc fd args).run P w = .ok (.enter fd args) w) ∧
 ∀ (args:Array Value) (w:World),args.size=3→CallsD P fd args .returning w fun e u w'=>(∃ v,e = .returned v)∧u = .returning∧Below w.heap.size w w'
noncomputable def ahJ (T:Nat→TE) (FF:Nat→Option FC) (ng N n fd:Nat) (fe:FE):Pre:=fun args t nx _=>
 okF (jT (Nat.ble args.length fe.nt) (ZV args 0 .lf fun env=>aaf T ng fe.ann (rF T FF ng N n) N fd (spine fe.body) false env t nx fun x _ env t nx => .ok x env t nx) (.bad 119)) fun x env t nx=>aiX x fe.res T ng env t nx
theorem QC (hT:TOK P T) (hng:ng≠0) {FF:Nat→Option FC} (hF:dK P T w0 ng FF) {f:Nat} {fe:FE} (hb:aA P T w0 ng f fe) {fd:Nat} (hd:DOK P fd) {N n:Nat}:ES P T w0 ng f (ahJ T FF ng N n fd fe):=by
 intro args t nx e v t' nx' h
 have hbd:∀ n,FR.bad n ≠ .ret v t' nx':=fun n h=>by cases h
 obtain ⟨fn,b1,b2,b3,b4,b5,b6⟩:=hb
 obtain ⟨x,env1,t1,nx1,k4,k5⟩:=XA h hbd
 have hbr:∀ n,R.bad n ≠ .ok x env1 t1 nx1:=fun n h=>by cases h
 rw [jC] at k4
 obtain ⟨hle,k3⟩:=aG k4 (hbr _)
 have hle:=aX.1 hle
 rw [JH] at k3
 obtain ⟨x',d',env',t2,nx2,k6,k7⟩:=J3 (P:=P) (w0:=w0) (nt:=fe.nt) hT (rE hT hF N n) N fd (spine fe.body) _ _ _ _ _ _ hbr (J4 fe.body b6) k3
 cases k6
 have fin:resV fe.res T ng env1 t1 (fun v => .ret v t1 nx1) = .ret v t' nx'→(x.exit = .normal∨x.exit = .ret)→Comes P T w0 ng f args t nx v t' nx':=fun hres hx=>by
  obtain ⟨r1,r2,r3⟩:=abT (P:=P) (w0:=w0) (nt:=fe.nt) hT b4 hres
  subst r1;subst r2
  refine .inl ⟨⟨fn,b1,b2,by rw [b3];rfl⟩,fun g hp w vs g1 g2 g3=>calls_of_wp_defers b1 b3 ?_⟩
  have hlen:vs.length=args.length:=g3.1
  have ha:AR [] g nx.num fe.nt (eu args .lf 0) { tmps:=vs.toArray++Array.replicate (fn.ntmps-vs.toArray.size) Go.undef,defers:=[] }:=by
   refine ⟨rfl,by simp [b5];omega,fun i c hc=>?_⟩
   rw [bT] at hc
   split at hc
   ·rename_i hi
    rw [Nat.sub_zero] at hc
    have hlt:i<vs.length:=by omega
    have e:(vs.toArray++Array.replicate (fn.ntmps-vs.toArray.size) Go.undef).getD i Go.undef=vs[i]:=by
     have:i<vs.toArray.size:=by simpa using hlt
     simp [Array.getElem?_append_left this,hlt]
    rw [e]
    exact g3.2 i c vs[i] hc (List.getElem?_eq_getElem hlt)
   ·rw [B.bW] at hc;cases hc
  refine KP (k7 [] g hp _ w g1 g2 ha (.inl ⟨rfl,rfl⟩) _ fun e a' w' ⟨he,g',hp',ds,st,ha',hds⟩=>?_)
  have last:∀ w2,Step T w0 ng g hp t nx w g' hp' t1 nx1 w2→Leaves P fn a'.tmps (fun e w'=>∃ g' hp' val,e = .returned val∧Step T w0 ng g hp t nx w g' hp' t1 nx1 w'∧RV g' nx1.num v val) [] .returning w2:=fun w2 st2=>by
   obtain ⟨u,u1,u2⟩:=r3 g' hp' a' w2 st2.hr st2.sub ha'
   exact ⟨u,u1,g',hp',u,rfl,st2,u2⟩
  have main:Leaves P fn a'.tmps (fun e w'=>∃ g' hp' val,e = .returned val∧Step T w0 ng g hp t nx w g' hp' t1 nx1 w'∧RV g' nx1.num v val) a'.defers .returning w':=by
   rw [ha'.defers]
   rcases hds with ⟨_,rfl⟩ | ⟨_,vf,vc,rfl,z1,z2⟩
   ·exact last w' st
   ·refine leaves_cons (by simp) (hd.1 _ _) ((hd.2 _ _ (by simp [z1,z2])).mono ?_)
    rintro e1 u1 w1 ⟨⟨v1,rfl⟩,rfl,hB⟩
    exact last w1 (st.trans (.idle st.hr st.sub ⟨hB.os,hB.tape,hB.output,hB.size,fun e=>absurd e hng⟩ hB.block))
  subst he
  rcases hx with hx | hx<;>rw [hx]<;>exact main
 cases x with
 | nrm=>exact .inl (fin k5 (.inl rfl))
 | ret=>exact .inl (fin k5 (.inr rfl))
 | ex i=>exact absurd k5 (hbd _)
end
end Go.Sim
