/- States as lists; the walk's rules. -/
import Derived.Test.YthckjidmpbiccaaGreatDoorAbsPAnd
set_option linter.unusedVariables false
set_option linter.unusedSimpArgs false
set_option linter.all false
namespace Go.Abs
open Go Go.RowKit
structure SL where
 env:List (Nat×V)
 hp:List (Key×Option Res)
 used:List Nat
def jZ:List (Nat×V)→Nat→V
 | [],_ => .any
 | (t',v)::r,t=>match Nat.beq t' t with | true=>v | false=>jZ r t
def LY (a b:Key):Bool:=match Nat.beq a.1 b.1 with | true=>Nat.beq a.2 b.2 | false=>false
theorem uT {a b:Key}:LY a b=true↔a=b:=by
 obtain ⟨a1,a2⟩:=a
 obtain ⟨b1,b2⟩:=b
 unfold LY
 simp only [Prod.mk.injEq]
 cases h:Nat.beq a1 b1 with
 | true=>simp only [Nat.eq_of_beq_eq_true h,true_and];exact ⟨fun h=>Nat.eq_of_beq_eq_true h,fun h=>by rw [h];exact Nat.beq_refl b2⟩
 | false=>
   constructor
   ·intro h';cases h'
   ·rintro ⟨rfl,_⟩;rw [Nat.beq_refl] at h;cases h
def jF:List (Key×Option Res)→Key→Option Res
 | [],_=>none
 | (k',r)::l,k=>match LY k' k with | true=>r | false=>jF l k
def SL.toS (l:SL):S:={ env:=jZ l.env,hp:=jF l.hp,used:=fun i=>i∈l.used }
def yu:List (Nat×V)→Nat→(V→Prop)→Prop
 | [],_,K=>K .any
 | (t',v)::r,t,K=>match Nat.beq t' t with | true=>K v | false=>yu r t K
theorem jM {K:V→Prop} {t:Nat}:∀ {env:List (Nat×V)},yu env t K↔K (jZ env t)
 | []=>Iff.rfl
 | (t',v)::r=>by
   unfold yu jZ
   cases Nat.beq t' t with
   | true=>exact Iff.rfl
   | false=>exact jM (env:=r)
def opK (l:SL) (x:Operand) (K:V→Prop):Prop:=
 match x with
 | .tmp t=>yu l.env t K
 | .const v=>match v with
   | .bool b=>K (.d (.bool b))
   | .int k n=>K (.d (.int k n))
   | v=>K (Hr v)
 | .global g=>glK (gl g) K
 | .func f=>K (.func (.func f) [] [])
theorem Oa {l:SL} {x:Operand} {K:V→Prop}:opK l x K↔K (l.toS.ev x):=by
 cases x with
 | tmp t=>exact jM
 | const v=>cases v<;>exact Iff.rfl
 | global g=>exact ZY
 | func f=>exact Iff.rfl
def Iz (l:SL):List Operand→(List V→Prop)→Prop
 | [],K=>K []
 | x::xs,K=>opK l x fun v=>Iz l xs fun vs=>K (v::vs)
theorem Du {l:SL}:∀ {xs:List Operand} {K:List V→Prop},Iz l xs K↔K (xs.map l.toS.ev)
 | [],K=>Iff.rfl
 | x::xs,K=>by
   unfold Iz
   rw [Oa,Du]
   exact Iff.rfl
def aY:Op→List Operand
 | .alloc _ | .ready _ | .waits _=>[]
 | .move x | .assign x | .box _ x | .load _ x | .nilCheck x | .unOp _ _ x | .convert _ _ x | .sliceToArrayPointer _ x | .makeInterface _ x
 | .makeChan _ x | .fieldAddr _ x _ | .field _ x _ | .range _ x | .next x _ | .entry x | .typeAssert x _ _ _ | .extract x _ | .panic x | .recv _ x _=>[x]
 | .pick c a b=>[c,a,b]
 | .build _ ⟨ps⟩ | .buildSlice _ _ ⟨ps⟩=>ps.map (·.2)
 | .store _ a v | .binOp _ _ a v _ | .makeSlice _ a v | .indexAddr _ a v | .index _ a v | .lookup _ a v _ | .mapEntry _ a v | .send a v=>[a,v]
 | .makeFunc _ ⟨first⟩ ⟨captured⟩=>first++captured
 | .makeMap _ r=>r.toList
 | .slice _ x l h m=>[x]++l.toList++h.toList++m.toList
 | .mapUpdate _ m k v | .entryStore _ m k v | .insert _ m k v=>[m,k,v]
 | .call c=>match c.callee,c.args with
   | .value f,⟨as⟩=>f::as
   | .invoke r _,⟨as⟩=>r::as
   | .builtin _,⟨as⟩=>as
 | op=>op.operands.toList
theorem mG (op:Op):op.operands.toList=aY op:=by
 cases op<;>simp [aY,Op.operands]
 case call c=>
  obtain ⟨callee,⟨as⟩,tys⟩:=c
  cases callee<;>simp [Call.operands]
def afY (t:Option Tmp):List Nat→Bool
 | []=>false
 | x::xs=>match t with | some d=>Nat.beq d x||afY t xs | none=>false
def inB (i:Nat):List Nat→Bool
 | []=>false
 | x::xs=>match Nat.beq i x with | true=>true | false=>inB i xs
theorem wR {i:Nat}:∀ {l:List Nat},inB i l=false→i∉l
 | [],_=>by simp
 | x::xs,h=>by
   unfold inB at h
   split at h
   ·cases h
   ·rename_i hx
    have h2:=wR h
    simp only [List.mem_cons,not_or]
    exact ⟨(fun e=>by rw [e,Nat.beq_refl] at hx;cases hx),h2⟩
def wW:List Nat→List Nat→Bool
 | [],_=>true
 | i::is,l=>match inB i l with | true=>false | false=>wW is l
theorem pF:∀ {is l:List Nat},wW is l=true→∀ i∈is,i∉l
 | [],l,_,i,hi=>by cases hi
 | j::is,l,h,i,hi=>by
   unfold wW at h
   split at h
   ·cases h
   ·rename_i hj
    rcases List.mem_cons.1 hi with rfl | hi
    ·exact wR hj
    ·exact pF h i hi
def IY {α:Type}:List α→List α→(List α→Prop)→Prop
 | [],l,K=>K l
 | x::xs,l,K=>IY xs l fun r=>K (x::r)
theorem wH {α:Type}:∀ {xs l:List α} {K:List α→Prop},IY xs l K↔K (xs++l)
 | [],l,K=>Iff.rfl
 | x::xs,l,K=>by unfold IY;exact wH
structure Ft where
 rd:List Key
 wr:List Key
 nw:List Nat
def SL.xG (l:SL) (dst:Option Tmp) (x:V) (δ:List (Key×Option Res)) (nw:List Nat) (K:SL→Prop):Prop:=
 match l with
 | ⟨env,hp,used⟩=>IY δ hp fun hp'=>IY nw used fun used'=>match dst with
   | some t=>K ⟨(t,x)::env,hp',used'⟩
   | none=>K ⟨env,hp',used'⟩
theorem yt {δ hp:List (Key×Option Res)}:jF (δ++hp)=lg (jF hp) δ:=by
 funext k
 induction δ with
 | nil=>rfl
 | cons e δ ih=>
   obtain ⟨k',r⟩:=e
   show (match LY k' k with | true=>r | false=>jF (δ++hp) k)=if k'=k then r else lg (jF hp) δ k
   rw [← ih]
   cases h:LY k' k with
   | true=>rw [if_pos (uT.1 h)]
   | false=>rw [if_neg (fun e=>by rw [uT.2 e] at h;cases h)]
theorem yI {l:SL} {dst:Option Tmp} {x:V} {δ:List (Key×Option Res)} {nw:List Nat} {K:SL→Prop} (h:l.xG dst x δ nw K):∃ l',K l'∧l'.toS=l.toS.apply dst x δ nw:=by
 obtain ⟨env,hp,used⟩:=l
 unfold SL.xG at h
 simp only at h
 rw [wH,wH] at h
 have hu:(fun i=>i∈nw++used)=fun i=>i∈used∨i∈nw:=by
  funext i;simp [or_comm]
 cases dst with
 | none=>
   refine ⟨_,h,?_⟩
   simp only [SL.toS,S.apply,yt,hu]
   congr 1
 | some d=>
   refine ⟨_,h,?_⟩
   simp only [SL.toS,S.apply,yt,hu]
   congr 1
   funext t
   show (match Nat.beq d t with | true=>x | false=>jZ env t)=if some d=some t then x else jZ env t
   cases e:Nat.beq d t with
   | true=>rw [if_pos (by rw [Nat.eq_of_beq_eq_true e])]
   | false=>rw [if_neg (fun e'=>by cases e';rw [Nat.beq_refl] at e;cases e)]
def BQ:List Oper→Nat→Option Tmp
 | [],_=>none
 | o::_,0=>o.dst
 | _::os,j+1=>BQ os j
theorem BP:∀ (os:List Oper) (j:Nat),BQ os j=(os[j]?).bind (·.dst)
 | [],j=>rfl
 | o::os,0=>rfl
 | o::os,j+1=>by simpa [BQ] using BP os j
def aiF (o:Oper):Nat:=match o.dst with | some d=>d | none=>0
def MO (v:V) (want:Bool) (A B:Prop):Prop:=match v with
 | .undef=>B
 | v=>NG v fun b=>match want with | true=>wo b A B | false=>wo b B A
theorem JM {v:V} {want:Bool} {A B:Prop} (h:MO v want A B):(v = .undef∧B)∨∃ b,v = .d (.bool b)∧((b=want∧A)∨(b=!want∧B)):=by
 unfold MO at h
 split at h
 ·exact .inl ⟨rfl,h⟩
 ·obtain ⟨b,hb,hAB⟩:=sD h
  refine .inr ⟨b,hb,?_⟩
  cases want with
  | true=>
    rcases qp hAB with ⟨e,hA⟩ | ⟨e,hB⟩
    ·exact .inl ⟨e,hA⟩
    ·exact .inr ⟨e,hB⟩
  | false=>
    rcases qp hAB with ⟨e,hB⟩ | ⟨e,hA⟩
    ·exact .inr ⟨e,hB⟩
    ·exact .inl ⟨e,hA⟩
def TB (P:Program) (T:Nat→TE) (M:List Nat) (os:List Oper) (o:Oper) (l:SL) (K:SL→Ft→Prop):Prop:=
 let A:=Iz l (aY o.op) fun vals=>aag P T (afY o.dst M) o vals (jF l.hp) (aiF o) fun x δ rd nw=>bC (wW nw l.used) (l.xG o.dst x δ nw fun l'=>K l' ⟨rd,δ.map (·.1),nw⟩)
 let B:=l.xG o.dst .undef [] [] fun l'=>K l' ⟨[],[],[]⟩
 match o.guard with
 | none=>A
 | some (j,want)=>match BQ os j with
   | some d=>yu l.env d fun v=>MO v want A B
   | none=>False
def pG (y:Y):Ft:=⟨y.rd,y.δ.map (·.1),y.nw⟩
theorem IK {P:Program} {T:Nat→TE} (hT:TOK P T) {M:List Nat} {ops:Array Oper} {o:Oper} {l:SL} {K:SL→Ft→Prop} (h:TB P T M ops.toList o l K) :
  ∃ y l',K l' (pG y)∧Yields P ops o y l.toS∧l'.toS=l.toS.after o y:=by
 unfold TB at h
 have goA:(Iz l (aY o.op) fun vals=>aag P T (afY o.dst M) o vals (jF l.hp) (aiF o) fun x δ rd nw=>bC (wW nw l.used) (l.xG o.dst x δ nw fun l'=>K l' ⟨rd,δ.map (·.1),nw⟩)) →
   eF ops o l.toS=some true→∃ y l',K l' (pG y)∧Yields P ops o y l.toS∧l'.toS=l.toS.after o y:=fun h hw=>by
  rw [Du] at h
  obtain ⟨x,δ,rd,nw,h1,h2⟩:=MV hT h
  obtain ⟨h3,h4⟩:=aG h1
  obtain ⟨l',h5,h6⟩:=yI h4
  exact ⟨⟨x,δ,rd,nw⟩,l',h5,.inl ⟨hw,jF l.hp,by rw [mG];exact h2,fun k hk=>rfl,fun i hi=>pF h3 i hi⟩,h6⟩
 have goB:(l.xG o.dst .undef [] [] fun l'=>K l' ⟨[],[],[]⟩)→eF ops o l.toS=some false→∃ y l',K l' (pG y)∧Yields P ops o y l.toS∧l'.toS=l.toS.after o y:=fun h hw=>by
  obtain ⟨l',h5,h6⟩:=yI h
  exact ⟨⟨.undef,[],[],[]⟩,l',h5,.inr ⟨hw,rfl⟩,h6⟩
 split at h
 ·rename_i hg
  exact goA h (by unfold eF;rw [hg])
 ·rename_i j want hg
  split at h
  ·rename_i d hd
   rw [jM] at h
   have e:(ops[j]?).bind (·.dst)=some d:=by rw [← hd,BP];simp
   rcases JM h with ⟨hun,hB⟩ | ⟨b,hb,hAB⟩
   ·refine goB hB ?_
    unfold eF
    rw [hg]
    simp only [e]
    show (match jZ l.env d with | .d (.bool b)=>some (b==want) | .undef=>some false | _=>none)=_
    rw [hun]
   ·have hw:eF ops o l.toS=some (b==want):=by
     unfold eF
     rw [hg]
     simp only [e]
     show (match jZ l.env d with | .d (.bool b)=>some (b==want) | .undef=>some false | _=>none)=_
     rw [hb]
    rcases hAB with ⟨e,hA⟩ | ⟨e,hB⟩
    ·exact goA hA (by rw [hw,e];simp)
    ·exact goB hB (by rw [hw,e];cases want<;>rfl)
  ·exact h.elim
def ZI (k:Key):List Key→Bool
 | []=>false
 | x::xs=>match LY k x with | true=>true | false=>ZI k xs
theorem Au {k:Key}:∀ {l:List Key},ZI k l=false→k∉l
 | [],_=>by simp
 | x::xs,h=>by
   unfold ZI at h
   split at h
   ·cases h
   ·rename_i hx
    simp only [List.mem_cons,not_or]
    exact ⟨(fun e=>by rw [uT.2 e] at hx;cases hx),Au h⟩
def EP:List Key→List Key→Bool
 | [],_=>true
 | k::ks,l=>match ZI k l with | true=>false | false=>EP ks l
theorem nT:∀ {ks l:List Key},EP ks l=true→∀ k∈ks,k∉l
 | [],l,_,k,hk=>by cases hk
 | j::ks,l,h,k,hk=>by
   unfold EP at h
   split at h
   ·cases h
   ·rename_i hj
    rcases List.mem_cons.1 hk with rfl | hk
    ·exact Au hj
    ·exact nT h k hk
def apartB (x y:Ft):Bool:=EP x.wr y.rd&&EP x.wr y.wr&&EP y.wr x.rd&&wW x.nw y.nw
theorem Kv {x y:Y} (h:apartB (pG x) (pG y)=true):Apart x y:=by
 simp only [apartB,Bool.and_eq_true,pG] at h
 obtain ⟨⟨⟨h1,h2⟩,h3⟩,h4⟩:=h
 have hm:∀ (y:Y) k r,(k,r)∈y.δ→k∈y.δ.map (·.1):=fun y k r hk=>List.mem_map.2 ⟨_,hk,rfl⟩
 exact ⟨fun k r hk=>⟨nT h1 k (hm x k r hk),fun r' hr'=>nT h2 k (hm x k r hk) (hm y k r' hr')⟩,fun k r hk=>nT h3 k (hm y k r hk),pF h4⟩
def su (i:Nat):List Edge→Bool
 | []=>false
 | e::es=>match Region.binds .any e&&Nat.beq e.on i with | true=>true | false=>su i es
theorem oI {i:Nat}:∀ {es:List Edge},su i es=true→∃ e∈es,Region.binds .any e=true∧e.on=i
 | [],h=>by cases h
 | e::es,h=>by
   unfold su at h
   split at h
   ·rename_i he
    simp only [Bool.and_eq_true] at he
    exact ⟨e,by simp,he.1,Nat.eq_of_beq_eq_true he.2⟩
   ·obtain ⟨e',h1,h2⟩:=oI h
    exact ⟨e',by simp [h1],h2⟩
def chk (es:List Edge) (fp:Ft):List (Nat×Ft)→Bool
 | []=>true
 | (i,f)::acc=>match su i es||apartB f fp with | true=>chk es fp acc | false=>false
theorem Ko {es:List Edge} {fp:Ft}:∀ {acc:List (Nat×Ft)},chk es fp acc=true→∀ i f,(i,f)∈acc→su i es=true∨apartB f fp=true
 | [],_,i,f,hm=>by cases hm
 | (j,g)::acc,h,i,f,hm=>by
   unfold chk at h
   split at h
   ·rename_i hj
    rcases List.mem_cons.1 hm with hm | hm
    ·cases hm;simpa using hj
    ·exact Ko h i f hm
   ·cases h
def zQ (P:Program) (T:Nat→TE) (M:List Nat) (draw:Bool) (all:List Oper):List Oper→Nat→List (Nat×Ft)→SL→(SL→Prop)→Prop
 | [],_,_,l,K=>K l
 | o::os,k,acc,l,K=>TB P T M all o l fun l' fp=>match draw with
   | false=>zQ P T M draw all os (k+1) acc l' K
   | true=>bC (chk o.after.toList fp acc) (zQ P T M draw all os (k+1) ((k,fp)::acc) l' K)
theorem zO {P:Program} {T:Nat→TE} (hT:TOK P T) {M:List Nat} {draw:Bool} {ops:Array Oper} {K:SL→Prop}:∀ (os:List Oper) (k:Nat) (acc:List (Nat×Ft)) (l:SL) (ys0:Nat→Y),
  zQ P T M draw ops.toList os k acc l K→(draw=true→∀ i,i<k→(i,pG (ys0 i))∈acc) →
  ∃ ys:Nat→Y,(∀ i,i<k→ys i=ys0 i)∧RF P ops ys (fun s=>∃ l',s=l'.toS∧K l') os k l.toS ∧
    (draw=true→∀ i j oj,os[j]?=some oj→i<k+j→(∀ e∈oj.after,Region.binds .any e=true→e.on≠i)→Apart (ys i) (ys (k+j)))
 | [],k,acc,l,ys0,h,_=>⟨ys0,fun _ _=>rfl,⟨l,rfl,h⟩,fun _ i j oj hj=>by simp at hj⟩
 | o::os,k,acc,l,ys0,h,hacc=>by
   unfold zQ at h
   obtain ⟨y,l',h1,h2,h3⟩:=IK hT h
   let ys1:Nat→Y:=fun i=>if i=k then y else ys0 i
   have hk:ys1 k=y:=by simp [ys1]
   have hlt:∀ i,i<k→ys1 i=ys0 i:=fun i hi=>by simp only [ys1];rw [if_neg (by omega)]
   have key:∃ acc',zQ P T M draw ops.toList os (k+1) acc' l' K∧(draw=true→∀ i,i<k+1→(i,pG (ys1 i))∈acc')∧(draw=true→∀ i,i<k→(∀ e∈o.after,Region.binds .any e=true→e.on≠i)→Apart (ys1 i) y):=by
    cases draw with
    | false=>exact ⟨acc,h1,(fun h=>by cases h),(fun h=>by cases h)⟩
    | true=>
      obtain ⟨hc,h1⟩:=aG h1
      refine ⟨_,h1,fun _ i hi=>?_,fun _ i hi hno=>?_⟩
      ·rcases Nat.lt_or_ge i k with hik | hik
       ·rw [hlt i hik];exact List.mem_cons_of_mem _ (hacc rfl i hik)
       ·have:i=k:=by omega
        subst this;rw [hk];exact List.mem_cons_self
      ·rcases Ko hc i _ (hacc rfl i hi) with hw | hap
       ·obtain ⟨e,he,hb,hon⟩:=oI hw
        exact absurd hon (hno e (by simpa using he) hb)
       ·rw [hlt i hi];exact Kv hap
   obtain ⟨acc',hr,ha,hn⟩:=key
   obtain ⟨ys,g1,g2,g3⟩:=zO hT os (k+1) acc' l' ys1 hr ha
   have hyk:ys k=y:=(g1 k (by omega)).trans hk
   refine ⟨ys,fun i hi=>(g1 i (by omega)).trans (hlt i hi),⟨by rw [hyk];exact h2,by rw [hyk,← h3];exact g2⟩,fun hd i j oj hj hij hno=>?_⟩
   cases j with
   | zero=>
     simp at hj
     subst hj
     have:=hn hd i (by omega) hno
     rw [← g1 i (by omega)] at this
     rw [Nat.add_zero,hyk]
     exact this
   | succ j=>
     have:=g3 hd i j oj (by simpa using hj) (by omega) hno
     rw [show k+(j+1)=k+1+j by omega]
     exact this
def dR (x:Nat):List Nat→Bool
 | []=>false
 | y::ys=>match Nat.beq x y with | true=>true | false=>dR x ys
theorem Gi (x:Nat):∀ l:List Nat,dR x l=l.contains x
 | []=>rfl
 | y::ys=>by
   unfold dR
   rw [List.contains_cons,← Gi x ys]
   by_cases e:x=y
   ·subst e;simp
   ·have:Nat.beq x y=false:=by cases h:Nat.beq x y with
     | true=>exact absurd (Nat.eq_of_beq_eq_true h) e
     | false=>rfl
    simp [this,e]
def tmpsOf:List Operand→List Nat
 | []=>[]
 | .tmp t::r=>t::tmpsOf r
 | _::r=>tmpsOf r
theorem Dx:∀ l:List Operand,tmpsOf l=l.filterMap fun | .tmp t=>some t | _=>none
 | []=>rfl
 | x::r=>by cases x<;>simp [tmpsOf,Dx r]
def dS (os:List Oper) (o:Oper):List Nat:=
 tmpsOf o.op.operands.toList++(match o.guard with
  | some (g,_)=>match BQ os g with | some d=>[d] | none=>[]
  | none=>[])
theorem Eb (ops:Array Oper) (o:Oper):dS ops.toList o=o.looksAt ops:=by
 unfold dS Oper.looksAt
 rw [Dx]
 congr 1
 cases o.guard with
 | none=>rfl
 | some gw=>
   obtain ⟨g,wt⟩:=gw
   have e:(ops[g]?).bind (·.dst)=BQ ops.toList g:=by rw [BP];simp
   simp only [e]
   cases BQ ops.toList g<;>rfl
def Iq (d1:Option Nat) (l1:List Nat) (d2:Option Nat) (l2:List Nat):Bool:=
 match (match d1 with
  | some d=>match dR d l2 with | true=>false | false=>(match d2 with | some d'=>!Nat.beq d' d | none=>true)
  | none=>true) with
 | true=>(match d2 with | some d=>!dR d l1 | none=>true)
 | false=>false
theorem Ku {ops:Array Oper} {x y:Oper} (h:Iq x.dst (dS ops.toList x) y.dst (dS ops.toList y)=true):x.apart ops y=true:=by
 rw [Eb,Eb] at h
 unfold Iq at h
 unfold Oper.apart
 split at h
 ·rename_i h1
  rw [Bool.and_eq_true]
  constructor
  ·split at h1
   ·rename_i d hd
    simp only [hd]
    split at h1
    ·cases h1
    ·rename_i hm
     rw [Gi] at hm
     rw [hm]
     cases hy:y.dst with
     | none=>rfl
     | some d'=>
       rw [hy] at h1
       simp only at h1
       have hne:d'≠d:=by intro e;subst e;simp at h1
       simp [hne]
   ·rename_i hd;simp only [hd]
  ·split at h
   ·rename_i d hd;simp only [hd];rw [← Gi];exact h
   ·rename_i hd;simp only [hd]
 ·cases h
def BM (k:Nat):List Edge→Bool
 | []=>true
 | e::es=>match Region.binds .any e with
   | true=>(match Nat.blt e.on k with | true=>BM k es | false=>false)
   | false=>BM k es
theorem pR {k:Nat}:∀ {es:List Edge},BM k es=true→∀ e∈es,Region.binds .any e=true→e.on<k
 | [],_,e,he,_=>by cases he
 | x::es,h,e,he,hb=>by
   unfold BM at h
   split at h
   ·split at h
    ·rename_i h2
     rcases List.mem_cons.1 he with rfl | he
     ·exact Nat.le_of_ble_eq_true h2
     ·exact pR h e he hb
    ·cases h
   ·rename_i h1
    rcases List.mem_cons.1 he with rfl | he
    ·rw [hb] at h1;cases h1
    ·exact pR h e he hb
def LQ:Op→Bool
 | .select ..=>false
 | _=>true
def Ac (es:List Edge) (d:Option Nat) (l:List Nat):List (Nat×Option Nat×List Nat)→Bool
 | []=>true
 | (i,di,li)::acc=>match su i es with
   | true=>Ac es d l acc
   | false=>(match Iq di li d l with | true=>Ac es d l acc | false=>false)
theorem o7 {es:List Edge} {d:Option Nat} {l:List Nat}:∀ {acc:List (Nat×Option Nat×List Nat)},Ac es d l acc=true→∀ i di li,(i,di,li)∈acc→su i es=true∨Iq di li d l=true
 | [],_,i,di,li,h=>by cases h
 | (i',d',l')::acc,h,i,di,li,hm=>by
   unfold Ac at h
   split at h
   ·rename_i h1
    rcases List.mem_cons.1 hm with e | hm
    ·cases e;exact .inl h1
    ·exact o7 h i di li hm
   ·split at h
    ·rename_i h2
     rcases List.mem_cons.1 hm with e | hm
     ·cases e;exact .inr h2
     ·exact o7 h i di li hm
    ·cases h
def JU (all:List Oper):List Oper→Nat→List (Nat×Option Nat×List Nat)→Bool
 | [],_,_=>true
 | o::os,k,acc=>match LQ o.op with
   | true=>(match BM k o.after.toList with
     | true=>(match Ac o.after.toList o.dst (dS all o) acc with
       | true=>JU all os (k+1) ((k,o.dst,dS all o)::acc)
       | false=>false)
     | false=>false)
   | false=>false
theorem Bz {ops:Array Oper}:∀ (os:List Oper) (k:Nat) (acc:List (Nat×Option Nat×List Nat)),JU ops.toList os k acc=true→(∀ j,os[j]?=ops[k+j]?) →
  (∀ i oi,i<k→ops[i]?=some oi→(i,oi.dst,dS ops.toList oi)∈acc) →
  ∀ j oj,k≤j→ops[j]?=some oj→LQ oj.op=true∧(∀ e∈oj.after,Region.binds .any e=true→e.on<j) ∧
    ∀ i oi,i<j→ops[i]?=some oi→(∀ e∈oj.after,Region.binds .any e=true→e.on≠i)→oi.apart ops oj=true
 | [],k,acc,_,hl,_,j,oj,hj,hoj=>by
   have:=hl (j-k)
   rw [show k+(j-k)=j by omega,hoj] at this
   simp at this
 | o::os,k,acc,h,hl,hacc,j,oj,hj,hoj=>by
   unfold JU at h
   split at h
   case h_2=>cases h
   rename_i h1
   split at h
   case h_2=>cases h
   rename_i h2
   split at h
   case h_2=>cases h
   rename_i h3
   have h0:ops[k]?=some o:=by simpa using (hl 0).symm
   rcases Nat.lt_or_ge k j with hlt | hge
   ·refine Bz os (k+1) _ h (fun j=>by have:=hl (j+1);simpa [Nat.add_assoc,Nat.add_comm 1 j] using this) (fun i oi hi hoi=>?_) j oj hlt hoj
    rcases Nat.lt_or_ge i k with hik | hik
    ·exact List.mem_cons_of_mem _ (hacc i oi hik hoi)
    ·have:i=k:=by omega
     subst this
     rw [h0] at hoi;cases hoi
     exact List.mem_cons_self
   ·have:j=k:=by omega
    subst this
    rw [h0] at hoj;cases hoj
    refine ⟨h1,fun e he hb=>pR h2 e (by simpa using he) hb,fun i oi hi hoi hno=>?_⟩
    rcases o7 h3 _ _ _ (hacc i oi hi hoi) with hw | hap
    ·obtain ⟨e,he,hb,hon⟩:=oI hw
     exact absurd hon (hno e (by simpa using he) hb)
    ·exact Ku hap
theorem Sl {ops:Array Oper} (h:JU ops.toList ops.toList 0 []=true):Region.lexB .any ops=true:=by
 have key:=Bz ops.toList 0 [] h (fun j=>by simp) (fun i oi hi=>by omega)
 have main:∀ (n k:Nat) (listed:Array Bool),k+n=ops.size→listed.size=ops.size→(∀ j,j<ops.size→listed[j]?=some (decide (j<k)))→Region.lexFrom .any ops n k listed=true:=by
  intro n
  induction n with
  | zero=>
    intro k listed hk hs hl
    unfold Region.lexFrom
    rw [List.isEmpty_iff]
    refine List.eq_nil_iff_forall_not_mem.2 fun j hj=>?_
    obtain ⟨h1,o,ho,_⟩:=mem_ready.1 hj
    have hlt:=(Array.getElem?_eq_some_iff.1 ho).1
    have:=hl j hlt
    simp only [Array.getD_eq_getD_getElem?,this,Option.getD_some] at h1
    have:j<k:=by omega
    simp [this] at h1
  | succ n ih=>
    intro k listed hk hs hl
    unfold Region.lexFrom
    have hlt:k<ops.size:=by omega
    have h0:ops[k]?=some ops[k]:=by simp [hlt]
    simp only [Bool.and_eq_true]
    refine ⟨⟨?_,?_⟩,ih (k+1) _ (by omega) (by simpa using hs) (fun j hj=>?_)⟩
    ·rw [List.contains_iff_mem,mem_ready]
     refine ⟨by simp only [Array.getD_eq_getD_getElem?,hl k hlt];simp,ops[k],h0,fun e he hb=>?_⟩
     have h1:=(key k _ (Nat.zero_le _) h0).2.1 e he hb
     simp only [Array.getD_eq_getD_getElem?,hl e.on (by omega),Option.getD_some]
     simp [h1]
    ·unfold Region.free
     rw [h0]
     simp only [List.all_eq_true,List.mem_range]
     intro j hj
     have hj0:ops[j]?=some ops[j]:=by simp [hj]
     by_cases e:j=k
     ·simp [e]
     ·simp only [Array.getD_eq_getD_getElem?,hl j hj,Option.getD_some,hj0]
      rcases Nat.lt_or_ge j k with hjk | hjk
      ·simp [hjk]
      ·by_cases hw:∀ e∈ops[j].after,Region.binds .any e=true→e.on≠k
       ·have:=(key j _ (Nat.zero_le _) hj0).2.2 k _ (by omega) h0 hw
        simp [this]
       ·have:(ops[j].after.any fun e=>Region.binds .any e&&e.on==k)=true:=by
         cases hany:(ops[j].after.any fun e=>Region.binds .any e&&e.on==k) with
         | true=>rfl
         | false=>
           refine absurd (fun e he hb hon=>?_) hw
           have:(ops[j].after.any fun e=>Region.binds .any e&&e.on==k)=true:=Array.any_eq_true'.2 ⟨e,he,by simp [hb,hon]⟩
           rw [hany] at this
           cases this
        simp [this]
    ·by_cases e:k=j
     ·subst e;simp [hs,hj]
     ·rw [Array.getElem?_setIfInBounds_ne e,hl j hj]
      congr 1
      by_cases h':j<k
      ·simp [h'];omega
      ·simp [h'];omega
 simp only [Region.lexB,Bool.and_eq_true]
 refine ⟨?_,main ops.size 0 _ (by omega) (by simp) (fun j hj=>by simp [hj])⟩
 unfold Region.noSelect
 rw [Array.all_eq_true_iff_forall_mem]
 intro o ho
 obtain ⟨j,hj⟩:=Array.getElem?_of_mem ho
 have:=(key j o (Nat.zero_le _) hj).1
 unfold LQ at this
 split at this<;>simp_all
def codeOk (nt:Nat):Code→Bool
 | .region _ ops draw=>Ae nt ops&&(!draw||JU ops.toList ops.toList 0 [])
 | .seq a b=>codeOk nt a&&codeOk nt b
 | .cond _ a b=>codeOk nt a&&codeOk nt b
 | .block _ c=>codeOk nt c
 | .loop c=>codeOk nt c
 | .skip | .exit _ | .ret=>true
 | _=>false
def WP (P:Program) (C:Ctx) (c:Code) (Q:Exit→SL→Prop) (l:SL):Prop:=
 codeOk C.nt c=true→∀ a w,Rel C l.toS a w→c.wp P (fun e a' w'=>∃ l',Rel C l'.toS a' w'∧Q e l') a w
section
variable {P:Program} {T:Nat→TE} {C:Ctx} {Q:Exit→SL→Prop} {l:SL}
theorem W2 (hT:TOK P T) (hm:P.follows .mixedOrders=true) (M:List Nat) {id:Nat} {ops:List Oper} {draw:Bool} (h:zQ P T M draw ops ops 0 [] l fun l'=>Q .normal l'):WP P C (.region id ops.toArray draw) Q l:=by
 intro hok a w hr
 simp only [codeOk,Bool.and_eq_true] at hok
 obtain ⟨ys,_,h2,h3⟩:=zO (ops:=ops.toArray) hT ops 0 [] l (fun _=>⟨.any,[],[],[]⟩) h (fun _ i hi=>by omega)
 have hQ:∀ s a w,Rel C s a w→(∃ l',s=l'.toS∧Q .normal l')→∃ l',Rel C l'.toS a w∧Q .normal l':=fun s a w hr ⟨l',e,hq⟩=>⟨l',e ▸ hr,hq⟩
 cases draw with
 | false=>exact zB (Q:=fun e a' w'=>∃ l',Rel C l'.toS a' w'∧Q e l') hok.1 hQ hr (by simpa using h2)
 | true=>
   refine yL (Q:=fun e a' w'=>∃ l',Rel C l'.toS a' w'∧Q e l') hm (Sl (by simpa using hok.2)) hok.1 (ys:=ys) (fun i j oj hj hij hno=>?_) hQ hr (by simpa using h2)
   have:=h3 rfl i j oj (by simpa using hj) (by omega) hno
   simpa using this
def aaS (next:SL→Prop) (Q:Exit→SL→Prop):Exit→SL→Prop
 | .normal,l=>next l
 | e,l=>Q e l
theorem W1 {a b:Code} (h:WP P C a (aaS (fun l'=>WP P C b Q l') Q) l):WP P C (.seq a b) Q l:=by
 intro hok act w hr
 simp only [codeOk,Bool.and_eq_true] at hok
 refine wp_seq (wp_mono (h hok.1 act w hr) ?_)
 rintro e a' w' ⟨l',hr',hq⟩
 cases e
 case normal=>exact hq hok.2 a' w' hr'
 all_goals exact ⟨l',hr',hq⟩
theorem W7 {x:Operand} {a b:Code} (h:opK l x fun v=>NG v fun t=>wo t (WP P C a Q l) (WP P C b Q l)) (hx:okO x=true):WP P C (.cond x a b) Q l:=by
 intro hok act w hr
 simp only [codeOk,Bool.and_eq_true] at hok
 rw [Oa] at h
 obtain ⟨t,ht,h12⟩:=sD h
 obtain ⟨β,ok,hr0⟩:=hr
 have hv:=hr0.eval x hx
 rw [ht] at hv
 have hv':=hv.gX
 have he:act.eval x = .bool t:=by
  generalize act.eval x=v at hv'
  cases hv';rfl
 rcases qp h12 with ⟨rfl,h1⟩ | ⟨rfl,h2⟩
 ·exact wp_cond_true he (h1 hok.1 act w ⟨β,ok,hr0⟩)
 ·exact wp_cond_false he (h2 hok.2 act w ⟨β,ok,hr0⟩)
def Jy (id:Nat) (Q:Exit→SL→Prop):Exit→SL→Prop
 | .exit id',l=>match Nat.beq id' id with | true=>Q .normal l | false=>Q (.exit id') l
 | e,l=>Q e l
theorem W3 {id:Nat} {c:Code} (h:WP P C c (Jy id Q) l):WP P C (.block id c) Q l:=by
 intro hok act w hr
 refine wp_block (wp_mono (h hok act w hr) ?_)
 rintro e a' w' ⟨l',hr',hq⟩
 cases e
 case exit id'=>
  show if id'=id then _ else _
  unfold Jy at hq
  simp only at hq
  cases hb:Nat.beq id' id with
  | true=>
    rw [hb] at hq
    rw [if_pos (Nat.eq_of_beq_eq_true hb)]
    exact ⟨l',hr',hq⟩
  | false=>
    rw [hb] at hq
    rw [if_neg (fun e=>by rw [e,Nat.beq_refl] at hb;cases hb)]
    exact ⟨l',hr',hq⟩
 all_goals exact ⟨l',hr',hq⟩
theorem W4 (h:Q .ret l):WP P C .ret Q l:=fun _ _ _ hr=>wp_ret ⟨l,hr,h⟩
theorem W5 (h:Q .normal l):WP P C .skip Q l:=fun _ _ _ hr=>wp_skip ⟨l,hr,h⟩
theorem W6 {id:Nat} (h:Q (.exit id) l):WP P C (.exit id) Q l:=fun _ _ _ hr=>wp_exit ⟨l,hr,h⟩
end
end Go.Abs
namespace Go.Abs
open Go Go.RowKit
abbrev Ren:=List (Nat×Option Nat)
def o8:Ren→Nat→(Option Nat→Prop)→Prop
 | [],_,_=>False
 | (i',o)::m,i,K=>match Nat.beq i' i with | true=>K o | false=>o8 m i K
def iQ:Ren→Nat→Option (Option Nat)
 | [],_=>none
 | (i',o)::m,i=>match Nat.beq i' i with | true=>some o | false=>iQ m i
theorem jV {i:Nat} {K:Option Nat→Prop}:∀ {m:Ren},o8 m i K→∃ o,iQ m i=some o∧K o
 | [],h=>h.elim
 | (i',o)::m,h=>by
   unfold o8 at h
   unfold iQ
   cases hb:Nat.beq i' i with
   | true=>rw [hb] at h;exact ⟨o,rfl,h⟩
   | false=>rw [hb] at h;exact jV h
def oldId (o:Option Nat) (id:Nat) (p:Prop):Prop:=match o with | some id'=>bC (Nat.beq id' id) p | none=>False
def vW1 (h:Key→Option Res) (m:Ren) (fz:List Nat) (v v':V) (p:Prop):Prop:=
 match v' with
 | .any=>p
 | .d y=>match v with
   | .d x=>x=y∧p
   | .aj=>D.list []=y∧p
   | .emp=>D.list []=y∧p
   | .sl id sz off len=>bC (inB id fz) (lQ (h (id,0)) fun sz2 xs=>bC (Nat.beq sz sz2) (∃ ys,(xs.drop off).take len=ys∧off+len≤xs.length∧D.list ys=y∧p))
   | _=>False
 | .aj=>match v with | .aj=>p | _=>False
 | .emp=>match v with | .aj=>p | .emp=>p | _=>False
 | .ptr id' off'=>match v with
   | .ptr id off=>o8 m id' fun o=>oldId o id (off=off'∧p)
   | _=>False
 | .sl id' sz' off' len'=>match v with
   | .sl id sz off len=>o8 m id' fun o=>oldId o id ((sz=sz'∧off=off'∧len=len')∧p)
   | .aj=>o8 m id' fun o=>match o with | none=>(off'=0∧len'=0)∧p | some _=>False
   | _=>False
 | .ael id' sz' i' off'=>match v with
   | .ael id sz i off=>o8 m id' fun o=>oldId o id ((sz=sz'∧i=i'∧off=off')∧p)
   | _=>False
 | .map id'=>match v with
   | .map id=>o8 m id' fun o=>oldId o id p
   | _=>False
 | _=>False
def vWs (h:Key→Option Res) (m:Ren) (fz:List Nat):List V→List V→Prop→Prop
 | [],[],p=>p
 | v::vs,v'::vs',p=>vW1 h m fz v v' (vWs h m fz vs vs' p)
 | _,_,_=>False
def vW (h:Key→Option Res) (m:Ren) (fz:List Nat) (v v':V) (p:Prop):Prop:=
 match v' with
 | .agg cs'=>match v with
   | .agg cs=>vWs h m fz cs cs' p
   | _=>False
 | .tuple cs'=>match v with
   | .tuple cs=>vWs h m fz cs cs' p
   | _=>False
 | .func fn' f' c'=>match v with
   | .func fn f c=>fn=fn'∧vWs h m fz f f' (vWs h m fz c c' p)
   | _=>False
 | v'=>vW1 h m fz v v' p
def afK (h:Key→Option Res) (m:Ren) (fz:List Nat) (k':Key) (r':Option Res) (p:Prop):Prop:=
 o8 m k'.1 fun o=>match o with
  | none=>match r' with
    | some (.arr sz [])=>k'.2=0∧0<sz∧p
    | _=>False
  | some id=>match r' with
    | some (.cell v')=>vF (h (id,k'.2)) fun v=>vW1 h m fz v v' p
    | some (.arr sz' xs')=>lQ (h (id,k'.2)) fun sz xs=>(sz=sz'∧xs=xs')∧p
    | some (.map es')=>match h (id,k'.2) with
      | some (.map es)=>es=es'∧p
      | _=>False
    | some (.rows _ _ _)=>False
    | none=>False
def aaj (l:SL) (m:Ren) (fz:List Nat):List (Nat×V)→Prop→Prop
 | [],p=>p
 | (t,v')::env,p=>yu l.env t fun v=>vW (jF l.hp) m fz v v' (aaj l m fz env p)
def hpW (l:SL) (m:Ren) (fz:List Nat):List (Key×Option Res)→Prop→Prop
 | [],p=>p
 | (k',r')::hp,p=>afK (jF l.hp) m fz k' r' (hpW l m fz hp p)
def xW (fz:List Nat):Ren→Bool
 | []=>true
 | (_,none)::m=>xW fz m
 | (_,some i)::m=>!inB i fz&&m.all (fun e=>match e.2 with | some j=>!Nat.beq i j | none=>true)&&xW fz m
def aad (h:Key→Option Res):List Nat→Prop→Prop
 | [],p=>p
 | i::is,p=>lQ (h (i,0)) fun _ _=>aad h is p
def OX (m:Ren):List Nat→Prop→Prop
 | [],p=>p
 | i::is,p=>o8 m i fun o=>oldId o i (OX m is p)
theorem AL {m:Ren}:∀ {is:List Nat} {p:Prop},OX m is p→(∀ i∈is,iQ m i=some (some i))∧p
 | [],p,h=>⟨by simp,h⟩
 | i::is,p,h=>by
   unfold OX at h
   obtain ⟨o,h1,h2⟩:=jV h
   unfold oldId at h2
   split at h2
   ·obtain ⟨h3,h4⟩:=aG h2
    obtain ⟨h5,h6⟩:=AL h4
    refine ⟨fun j hj=>?_,h6⟩
    rcases List.mem_cons.1 hj with rfl | hj
    ·rw [h1,Nat.eq_of_beq_eq_true h3]
    ·exact h5 j hj
   ·exact h2.elim
def NC (U:List Nat) (m:Ren) (fz:List Nat) (l l':SL):Prop:=
 OX m U <| bC (xW fz m) (aad (jF l.hp) fz (l'.used=m.map (·.1)∧aaj l m fz l'.env (hpW l m fz l'.hp True)))
theorem Jz {i:Nat}:∀ {l:List Nat},inB i l=true→i∈l
 | [],h=>by cases h
 | x::xs,h=>by
   unfold inB at h
   split at h
   ·rename_i hx;rw [Nat.eq_of_beq_eq_true hx];exact List.mem_cons_self
   ·exact List.mem_cons_of_mem _ (Jz h)
theorem bY {i:Nat} {o:Option Nat}:∀ {m:Ren},iQ m i=some o→(i,o)∈m
 | [],h=>by cases h
 | (i',o')::m,h=>by
   unfold iQ at h
   cases hb:Nat.beq i' i with
   | true=>rw [hb] at h;simp at h;rw [Nat.eq_of_beq_eq_true hb,h];exact List.mem_cons_self
   | false=>rw [hb] at h;exact List.mem_cons_of_mem _ (bY h)
theorem qx {fz:List Nat}:∀ {m:Ren},xW fz m=true→∀ i j k,(i,some k)∈m→(j,some k)∈m→iQ m i=some (some k)→iQ m j=some (some k)→i=j
 | [],_,i,j,k,hi,_,_,_=>by cases hi
 | (a,none)::m,h,i,j,k,hi,hj,fi,fj=>by
   have h':xW fz m=true:=h
   have ci:Nat.beq a i=false:=by
    unfold iQ at fi
    cases hb:Nat.beq a i with
    | true=>rw [hb] at fi;cases fi
    | false=>rfl
   have cj:Nat.beq a j=false:=by
    unfold iQ at fj
    cases hb:Nat.beq a j with
    | true=>rw [hb] at fj;cases fj
    | false=>rfl
   unfold iQ at fi fj
   rw [ci] at fi
   rw [cj] at fj
   exact qx h' i j k (bY fi) (bY fj) fi fj
 | (a,some b)::m,h,i,j,k,hi,hj,fi,fj=>by
   unfold xW at h
   simp only [Bool.and_eq_true] at h
   obtain ⟨⟨h1,h2⟩,h3⟩:=h
   have hno:∀ x,(x,some b)∉m:=fun x hx=>by
    have:=List.all_eq_true.1 h2 _ hx
    simp [Nat.beq_refl] at this
   unfold iQ at fi fj
   cases ci:Nat.beq a i with
   | true=>
     rw [ci] at fi
     simp at fi
     subst fi
     cases cj:Nat.beq a j with
     | true=>rw [← Nat.eq_of_beq_eq_true ci,← Nat.eq_of_beq_eq_true cj]
     | false=>rw [cj] at fj;exact absurd (bY fj) (hno j)
   | false=>
     rw [ci] at fi
     cases cj:Nat.beq a j with
     | true=>
       rw [cj] at fj
       simp at fj
       subst fj
       exact absurd (bY fi) (hno i)
     | false=>
       rw [cj] at fj
       exact qx h3 i j k (bY fi) (bY fj) fi fj
theorem zT {fz:List Nat}:∀ {m:Ren},xW fz m=true→∀ i k,(i,some k)∈m→k∉fz
 | [],_,i,k,hi=>by cases hi
 | (a,none)::m,h,i,k,hi=>by
   rcases List.mem_cons.1 hi with e | hi
   ·cases e
   ·exact zT (m:=m) h i k hi
 | (a,some b)::m,h,i,k,hi=>by
   unfold xW at h
   simp only [Bool.and_eq_true] at h
   rcases List.mem_cons.1 hi with e | hi
   ·cases e
    have:=h.1.1
    exact wR (by simpa using this)
   ·exact zT (m:=m) h.2 i k hi
theorem EF {h:Key→Option Res}:∀ {fz:List Nat} {p:Prop},aad h fz p→(∀ i∈fz,∃ sz xs,h (i,0)=some (.arr sz xs))∧p
 | [],p,hp=>⟨by simp,hp⟩
 | i::fz,p,hp=>by
   unfold aad at hp
   obtain ⟨sz,xs,h1,h2⟩:=eu hp
   obtain ⟨h3,h4⟩:=EF h2
   exact ⟨fun j hj=>by
    rcases List.mem_cons.1 hj with rfl | hj
    ·exact ⟨sz,xs,h1⟩
    ·exact h3 j hj,h4⟩
section
variable {C:Ctx} {β:Nat→Value} {ok:Nat→Prop} {l:SL} {a:Act} {w:World} {m:Ren} {fz:List Nat}
def mg (β:Nat→Value) (m:Ren) (i:Nat):Value:=match iQ m i with | some (some k)=>β k | _ => .slice none 0 0
def okZ (β:Nat→Value) (ok:Nat→Prop) (fz:List Nat) (b:Nat):Prop:=ok b∨∃ i∈fz,aW (β i)=some b
theorem vZ (h:RelB C β ok l.toS a w) {v v':V} {p:Prop} (hw:vW1 (jF l.hp) m fz v v' p) :
  p∧∀ val,RdV β l.toS.used ok w val v→RdV (mg β m) (fun i=>i∈m.map (·.1)) (okZ β ok fz) w val v':=by
 have hokz:∀ b,ok b→okZ β ok fz b:=fun b hb => .inl hb
 have look:∀ {i id:Nat} {q:Prop},(o8 m i fun o=>oldId o id q)→(i∈m.map (·.1)∧mg β m i=β id)∧q:=fun {i id q} h=>by
  obtain ⟨o,h1,h2⟩:=jV h
  unfold oldId at h2
  split at h2
  ·obtain ⟨h3,h4⟩:=aG h2
   refine ⟨⟨List.mem_map.2 ⟨_,bY h1,rfl⟩,?_⟩,h4⟩
   unfold mg;rw [h1,← Nat.eq_of_beq_eq_true h3]
  ·exact h2.elim
 unfold vW1 at hw
 split at hw
 ·exact ⟨hw,fun val _ => .any _⟩
 ·split at hw
  ·obtain ⟨rfl,hp⟩:=hw
   exact ⟨hp,fun val hv => .d _ _ (hv.gX.mono (fun _ _=>rfl) hokz)⟩
  ·obtain ⟨rfl,hp⟩:=hw
   exact ⟨hp,fun val hv=>by cases hv;exact .d _ _ (.o9 _)⟩
  ·obtain ⟨rfl,hp⟩:=hw
   exact ⟨hp,fun val hv=>by cases hv;exact .d _ _ (.o9 _)⟩
  ·rename_i id sz off len
   obtain ⟨hf,hw⟩:=aG hw
   obtain ⟨sz2,xs,hh,hw⟩:=eu hw
   obtain ⟨hs,ys,rfl,hl,rfl,hp⟩:=aG hw
   have e:sz=sz2:=Nat.eq_of_beq_eq_true hs
   subst e
   exact ⟨hp,fun val hv => .d _ _ (RdD.FI hv (h.heap _ _ hh).2.2 hl (fun b hb => .inr ⟨id,Jz hf,hb⟩) hokz)⟩
  ·exact hw.elim
 ·split at hw
  ·exact ⟨hw,fun val hv=>by cases hv;exact .aj⟩
  ·exact hw.elim
 ·split at hw
  ·exact ⟨hw,fun val hv=>by cases hv;exact .emp _⟩
  ·exact ⟨hw,fun val hv=>by cases hv;exact .emp _⟩
  ·exact hw.elim
 ·split at hw
  ·obtain ⟨⟨h1,h2⟩,rfl,hp⟩:=look hw
   exact ⟨hp,fun val hv=>by
    cases hv with
    | ptr _ _ b q1 q2=>exact .ptr _ _ b h1 (h2.trans q2)⟩
  ·exact hw.elim
 ·split at hw
  ·obtain ⟨⟨h1,h2⟩,⟨rfl,rfl,rfl⟩,hp⟩:=look hw
   exact ⟨hp,fun val hv=>by
    cases hv with
    | sl _ _ _ _ n cap a0 a1 q1 q2 q3 q4 q5=>exact .sl _ _ _ _ n cap a0 a1 h1 (h2.trans q2) q3 q4 q5⟩
  ·obtain ⟨o,h1,h2⟩:=jV hw
   split at h2
   ·obtain ⟨⟨rfl,rfl⟩,hp⟩:=h2
    refine ⟨hp,fun val hv=>?_⟩
    cases hv
    exact RdV.sl _ _ 0 0 0 0 none none (List.mem_map.2 ⟨_,bY h1,rfl⟩) (by unfold mg;rw [h1]) (by omega) (by simp) (fun hc=>by omega)
   ·exact h2.elim
  ·exact hw.elim
 ·split at hw
  ·obtain ⟨⟨h1,h2⟩,⟨rfl,rfl,rfl⟩,hp⟩:=look hw
   exact ⟨hp,fun val hv=>by
    cases hv with
    | ael _ _ _ _ b o n cap q1 q2=>exact .ael _ _ _ _ b o n cap h1 (h2.trans q2)⟩
  ·exact hw.elim
 ·split at hw
  ·obtain ⟨⟨h1,h2⟩,hp⟩:=look hw
   exact ⟨hp,fun val hv=>by
    cases hv with
    | map _ r q1 q2=>exact .map _ r h1 (h2.trans q2)⟩
  ·exact hw.elim
 ·exact hw.elim
theorem lV (h:RelB C β ok l.toS a w):∀ {vs vs':List V} {p:Prop},vWs (jF l.hp) m fz vs vs' p →
  p∧vs.length=vs'.length∧∀ (i:Nat) val v v',vs[i]?=some v→vs'[i]?=some v'→RdV β l.toS.used ok w val v→RdV (mg β m) (fun i=>i∈m.map (·.1)) (okZ β ok fz) w val v'
 | [],[],p,hw=>⟨hw,rfl,fun i val v v' hv=>by simp at hv⟩
 | v::vs,v'::vs',p,hw=>by
   unfold vWs at hw
   obtain ⟨h1,h2⟩:=vZ h hw
   obtain ⟨h3,h4,h5⟩:=lV h h1
   refine ⟨h3,by simp [h4],fun i val u u' hu hu' hr=>?_⟩
   cases i with
   | zero=>simp at hu hu';subst hu;subst hu';exact h2 val hr
   | succ i=>exact h5 i val u u' (by simpa using hu) (by simpa using hu') hr
 | [],_::_,p,hw=>by unfold vWs at hw;exact hw.elim
 | _::_,[],p,hw=>by unfold vWs at hw;exact hw.elim
theorem Tc (h:RelB C β ok l.toS a w) {v v':V} {p:Prop} (hw:vW (jF l.hp) m fz v v' p) :
  p∧∀ val,RdV β l.toS.used ok w val v→RdV (mg β m) (fun i=>i∈m.map (·.1)) (okZ β ok fz) w val v':=by
 have pick:∀ (us:Array Value) (cs cs':List V),us.size=cs.length→cs.length=cs'.length→(∀ (i:Nat) v c,us[i]?=some v→cs[i]?=some c→RdV β l.toS.used ok w v c) →
   (∀ (i:Nat) val v v',cs[i]?=some v→cs'[i]?=some v'→RdV β l.toS.used ok w val v→RdV (mg β m) (fun i=>i∈m.map (·.1)) (okZ β ok fz) w val v') →
   ∀ (i:Nat) v c,us[i]?=some v→cs'[i]?=some c→RdV (mg β m) (fun i=>i∈m.map (·.1)) (okZ β ok fz) w v c:=fun us cs cs' e1 e2 hr hs i v c hv hc=>by
  have hi:i<cs.length:=by rw [← e1];exact (Array.getElem?_eq_some_iff.1 hv).1
  have hcs:cs[i]?=some cs[i]:=by simp
  exact hs i v _ c hcs hc (hr i v _ hv hcs)
 unfold vW at hw
 split at hw
 ·split at hw
  ·obtain ⟨h1,h2,h3⟩:=lV h hw
   refine ⟨h1,fun val hv=>?_⟩
   cases hv with
   | agg us _ q1 q2 q3=>exact .agg us _ (q1.trans h2) (pick us _ _ q1 h2 q2 h3) q3
  ·exact hw.elim
 ·split at hw
  ·obtain ⟨h1,h2,h3⟩:=lV h hw
   refine ⟨h1,fun val hv=>?_⟩
   cases hv with
   | tuple us _ q1 q2=>exact .tuple us _ (q1.trans h2) (pick us _ _ q1 h2 q2 h3)
  ·exact hw.elim
 ·split at hw
  ·obtain ⟨rfl,hw⟩:=hw
   obtain ⟨h1,h2,h3⟩:=lV h hw
   obtain ⟨g1,g2,g3⟩:=lV h h1
   refine ⟨g1,fun val hv=>?_⟩
   cases hv with
   | func _ fs cs _ _ q1 q2 q3 q4=>exact .func _ fs cs _ _ (q1.trans h2) (q2.trans g2) (pick fs _ _ q1 h2 q3 h3) (pick cs _ _ q2 g2 q4 g3)
  ·exact hw.elim
 ·exact vZ h hw
theorem BK (h:RelB C β ok l.toS a w):∀ {env:List (Nat×V)} {p:Prop},aaj l m fz env p→p∧∀ t,RdV (mg β m) (fun i=>i∈m.map (·.1)) (okZ β ok fz) w (a.tmps.getD t undef) (jZ env t)
 | [],p,hw=>⟨hw,fun t => .any _⟩
 | (t0,v')::env,p,hw=>by
   unfold aaj at hw
   rw [jM] at hw
   obtain ⟨h1,h2⟩:=Tc h hw
   obtain ⟨h3,h4⟩:=BK h h1
   refine ⟨h3,fun t=>?_⟩
   unfold jZ
   cases hb:Nat.beq t0 t with
   | true=>rw [← Nat.eq_of_beq_eq_true hb];exact h2 _ (h.env t0)
   | false=>exact h4 t
def LU (r:Res):Prop:=∀ sz rs out,r ≠ .rows sz rs out
theorem Blk.LM {β:Nat→Value} {w:World} {k:Key} {r:Res} {b:Nat} (hn:LU r) (h:Blk β w k r b):aW (β k.1)=some b:=by
 rcases h with h | h
 ·exact h
 ·cases r with
  | rows sz rs out=>exact absurd rfl (hn sz rs out)
  | cell _=>exact h.elim
  | arr _ _=>exact h.elim
  | map _=>exact h.elim
theorem KY (h:RelB C β ok l.toS a w) {k':Key} {r':Option Res} {p:Prop} (hw:afK (jF l.hp) m fz k' r' p) :
  p∧k'.1∈m.map (·.1)∧∃ r,r'=some r∧LU r∧Own (mg β m) (fun i=>i∈m.map (·.1)) (okZ β ok fz) w k' r ∧
   ((iQ m k'.1=some none∧aW (mg β m k'.1)=none)∨∃ id r0,iQ m k'.1=some (some id)∧jF l.hp (id,k'.2)=some r0∧(∀ v,r = .cell v↔∃ v0,r0 = .cell v0∧r = .cell v)):=by
 have hokz:∀ b,ok b→okZ β ok fz b:=fun b hb => .inl hb
 unfold afK at hw
 obtain ⟨o,h1,h2⟩:=jV hw
 have hmem:k'.1∈m.map (·.1):=List.mem_map.2 ⟨_,bY h1,rfl⟩
 split at h2
 ·split at h2
  ·obtain ⟨h3,h4,h5⟩:=h2
   have hβ:mg β m k'.1 = .slice none 0 0:=by unfold mg;rw [h1]
   exact ⟨h5,hmem,_,rfl,fun _ _ _ e=>(by cases e),⟨h3,none,0,hβ,by simp,by simp [maxLen],h4,by simp,fun hc=>by omega⟩,.inl ⟨h1,by rw [hβ];rfl⟩⟩
  ·exact h2.elim
 ·rename_i id
  have hβ:mg β m k'.1=β id:=by unfold mg;rw [h1]
  split at h2
  ·obtain ⟨v,h3,h4⟩:=nR h2
   obtain ⟨h5,h6⟩:=vZ h h4
   obtain ⟨_,b,c,T,v0,e1,e2,e3,e4,e5⟩:=h.heap _ _ h3
   exact ⟨h5,hmem,_,rfl,fun _ _ _ e=>(by cases e),⟨b,c,T,v0,hβ.trans e1,e2,e3,e4,h6 v0 e5⟩,.inr ⟨id,_,h1,h3,fun v1=>⟨fun e=>⟨v,rfl,e⟩,fun ⟨_,_,e⟩=>e⟩⟩⟩
  ·obtain ⟨sz,xs,h3,⟨rfl,rfl⟩,h4⟩:=eu h2
   obtain ⟨_,hk0,a0,cap,e1,e2,e3,e4,e5,e6⟩:=h.heap _ _ h3
   refine ⟨h4,hmem,_,rfl,fun _ _ _ e=>(by cases e),⟨hk0,a0,cap,hβ.trans e1,e2,e3,e4,e5,fun hc=>?_⟩,.inr ⟨id,_,h1,h3,fun v1=>⟨(fun e=>by cases e),(fun ⟨_,e,_⟩=>by cases e)⟩⟩⟩
   obtain ⟨b,o,cur,T,f1,f2,f3,f4⟩:=e6 hc
   refine ⟨b,o,cur,T,f1,f2,f3,fun i x j c hx hc'=>?_⟩
   obtain ⟨u0,g1,g2,g3⟩:=f4 i x j c hx hc'
   exact ⟨u0,g1,g2.mono (fun _ _=>rfl) hokz,g3⟩
  ·split at h2
   ·rename_i es h3
    obtain ⟨rfl,h4⟩:=h2
    obtain ⟨_,hk0,r,ents,clock,e1,e2,e3,e4⟩:=h.heap _ _ h3
    exact ⟨h4,hmem,_,rfl,fun _ _ _ e=>(by cases e),⟨hk0,r,ents,clock,hβ.trans e1,e2,e3,fun i mm e hm he=>⟨(e4 i mm e hm he).1.mono (fun _ _=>rfl) hokz,(e4 i mm e hm he).2.mono (fun _ _=>rfl) hokz⟩⟩,
     .inr ⟨id,_,h1,h3,fun v1=>⟨(fun e=>by cases e),(fun ⟨_,e,_⟩=>by cases e)⟩⟩⟩
   ·exact h2.elim
  ·exact h2.elim
  ·exact h2.elim
theorem En (h:RelB C β ok l.toS a w):∀ {hp:List (Key×Option Res)} {p:Prop},hpW l m fz hp p→p∧∀ k r,jF hp k=some r→k.1∈m.map (·.1)∧LU r∧Own (mg β m) (fun i=>i∈m.map (·.1)) (okZ β ok fz) w k r ∧
   ((iQ m k.1=some none∧aW (mg β m k.1)=none)∨∃ id r0,iQ m k.1=some (some id)∧jF l.hp (id,k.2)=some r0∧(∀ v,r = .cell v↔∃ v0,r0 = .cell v0∧r = .cell v))
 | [],p,hw=>⟨hw,fun k r hr=>by cases hr⟩
 | (k0,r0)::hp,p,hw=>by
   unfold hpW at hw
   obtain ⟨h1,h2,r,h3,hnr,h4,h5⟩:=KY h hw
   obtain ⟨h6,h7⟩:=En h h1
   refine ⟨h6,fun k r' hr=>?_⟩
   unfold jF at hr
   cases hb:LY k0 k with
   | true=>
     rw [hb] at hr
     have e:=uT.1 hb
     subst e
     simp only at hr
     rw [h3] at hr
     cases hr
     exact ⟨h2,hnr,h4,h5⟩
   | false=>rw [hb] at hr;exact h7 k r' hr
theorem RelB.weak {l l':SL} (h:RelB C β ok l.toS a w) (hw:NC C.u0 m fz l l'):RelB C (mg β m) (okZ β ok fz) l'.toS a w:=by
 obtain ⟨h0,hw⟩:=AL hw
 obtain ⟨h1,hw⟩:=aG hw
 obtain ⟨h2,hu,hw⟩:=EF hw
 obtain ⟨hw,h3⟩:=BK h hw
 obtain ⟨_,h4⟩:=En h hw
 have hused:l'.toS.used=fun i=>i∈m.map (·.1):=by funext i;show (i∈l'.used)=_;rw [hu]
 have hren:∀ {i id:Nat},iQ m i=some (some id)→mg β m i=β id:=fun h=>by unfold mg;rw [h]
 refine ⟨h.defers,h.iP,fun t=>?_,fun k r hr=>?_,fun k r b hr hb=>?_,fun k k' r r' b hr hr' hb hb'=>?_,fun b hb=>?_,fun b hb => .inl (h.ok0 b hb),fun b hb=>?_,h.frame,fun i hi=>?_,h.glob.mono (fun _ _=>rfl) fun _ h => .inl h⟩
 ·rw [hused];exact h3 t
 ·rw [hused];exact ⟨(h4 k r hr).1,(h4 k r hr).2.2.1⟩
 ·obtain ⟨_,hnr,_,⟨_,hn⟩ | ⟨id,r0,g1,g2,g3⟩⟩:=h4 k r hr
  all_goals replace hb:=Blk.LM hnr hb
  ·rw [hn] at hb;cases hb
  ·rw [hren g1] at hb
   obtain ⟨s1,s2,s3⟩:=h.sep (id,k.2) r0 b g2 (.inl hb)
   refine ⟨fun hc=>?_,s2,fun hlt=>?_⟩
   ·rcases hc with hc | ⟨i,hi,hc⟩
    ·exact s1 hc
    ·obtain ⟨sz,xs,hi2⟩:=h2 i hi
     have:=h.inj (id,k.2) (i,0) r0 _ b g2 hi2 (.inl hb) (.inl hc)
     simp only at this
     subst this
     exact zT h1 k.1 id (bY g1) hi
   ·have:=s3 hlt
    cases r with
    | cell v=>
      obtain ⟨v0,e,_⟩:=(g3 v).1 rfl
      subst e
      have hid:k.1=id:=qx h1 k.1 id id (bY g1) (bY (h0 id this.1)) g1 (h0 id this.1)
      exact ⟨by rw [hid];exact this.1,this.2⟩
    | arr sz xs=>
      cases r0 with
      | cell v0=>exact absurd rfl (fun (_:True=True)=>by
        obtain ⟨hh,ho⟩:=h.heap _ _ g2
        obtain ⟨_,b1,c1,T1,v1,e1,_⟩:=(⟨hh,ho⟩:l.toS.used (id,k.2).1∧Own β l.toS.used ok w (id,k.2) (.cell v0))
        have hown:=(h4 k _ hr).2.2.1
        obtain ⟨_,a0,cap,f1,_⟩:=hown
        rw [hren g1] at f1
        simp only at e1
        rw [e1] at f1
        cases f1)
      | arr _ _=>exact this
      | map _=>exact this
      | rows _ _ _=>exact this
    | rows _ _ _=>exact absurd rfl (hnr _ _ _)
    | map es=>
      cases r0 with
      | cell v0=>exact absurd rfl (fun (_:True=True)=>by
        obtain ⟨_,b1,c1,T1,v1,e1,_⟩:=h.heap _ _ g2
        have hown:=(h4 k _ hr).2.2.1
        obtain ⟨_,rr,ents,clock,f1,_⟩:=hown
        rw [hren g1] at f1
        simp only at e1
        rw [e1] at f1
        cases f1)
      | arr _ _=>exact this
      | map _=>exact this
      | rows _ _ _=>exact this
 ·obtain ⟨_,hnr,_,⟨_,hn⟩ | ⟨id,r0,g1,g2,g3⟩⟩:=h4 k r hr
  all_goals replace hb:=Blk.LM hnr hb
  ·rw [hn] at hb;cases hb
  ·obtain ⟨_,hnr',_,⟨_,hn'⟩ | ⟨id',r0',g1',g2',g3'⟩⟩:=h4 k' r' hr'
   all_goals replace hb':=Blk.LM hnr' hb'
   ·rw [hn'] at hb';cases hb'
   ·rw [hren g1] at hb
    rw [hren g1'] at hb'
    have:=h.inj (id,k.2) (id',k'.2) r0 r0' b g2 g2' (.inl hb) (.inl hb')
    simp only at this
    subst this
    exact qx h1 k.1 k'.1 id (bY g1) (bY g1') g1 g1'
 ·rcases hb with hb | ⟨i,hi,hb⟩
  ·exact h.okb b hb
  ·obtain ⟨sz,xs,hi2⟩:=h2 i hi
   exact (h.sep (i,0) _ b hi2 (.inl hb)).2.1
 ·rcases hb with hb | ⟨i,hi,hb⟩
  ·exact h.okn b hb
  ·obtain ⟨sz,xs,hi2⟩:=h2 i hi
   have:=(h.sep (i,0) _ b hi2 (.inl hb)).2.2
   rcases Nat.lt_or_ge b C.w0.heap.size with hlt | hge
   ·exact .inr (.inr (this hlt))
   ·exact .inr (.inl hge)
 ·have:=h0 i hi
  exact ⟨by rw [hused];exact List.mem_map.2 ⟨_,bY this,rfl⟩,(hren this).trans (h.keep i hi).2⟩
theorem Rel.weak {l l':SL} (h:Rel C l.toS a w) (hw:NC C.u0 m fz l l'):Rel C l'.toS a w:=by
 obtain ⟨β,ok,h⟩:=h
 exact ⟨_,_,h.weak hw⟩
end
section
variable {P:Program} {T:Nat→TE} {C:Ctx} {Q:Exit→SL→Prop} {l:SL}
theorem WP.loop {α:Type} (st:α→SL) (I:α→Prop) (μ:α→Nat) {c:Code} (x0:α) (m0:Ren) (fz0:List Nat) (hw:NC C.u0 m0 fz0 l (st x0)) (h0:I x0)
  (round:∀ x,I x→WP P C c (aaS (fun l'=>∃ y m fz,NC C.u0 m fz l' (st y)∧I y∧μ y<μ x) Q) (st x)):WP P C (.loop c) Q l:=by
 intro hok act w hr
 have hr0:=hr.weak hw
 intro b k cs
 have key:∀ n x,μ x=n→I x→∀ act w,Rel C (st x).toS act w →
   ∃ e a' w',(∃ l',Rel C l'.toS a' w'∧Q e l')∧Arrives P (lone (b.at act (.code c :: .inLoop c::k)) cs w) b k cs e a' w':=by
  intro n
  induction n using Nat.strongRecOn with
  | _ n ih=>
    intro x hn hI act w hr
    obtain ⟨e,a₁,w₁,⟨l',hr',hq⟩,harr⟩:=round x hI hok act w hr b (.inLoop c::k) cs
    cases e with
    | normal=>
      obtain ⟨y,m,fz,hw',hI',hlt⟩:=hq
      obtain ⟨e₂,a₂,w₂,hq₂,harr₂⟩:=ih (μ y) (hn ▸ hlt) y rfl hI' a₁ w₁ (hr'.weak hw')
      exact ⟨e₂,a₂,w₂,hq₂,.of_steps (Steps.trans harr (.one step_inLoop)) harr₂⟩
    | exit id=>exact ⟨_,a₁,w₁,⟨l',hr',hq⟩,.pass (x := .inLoop c) rfl (fun _ _ => .inl (by simp)) harr⟩
    | goto l=>exact ⟨_,a₁,w₁,⟨l',hr',hq⟩,.pass (x := .inLoop c) rfl (fun _ _ => .inl (by simp)) harr⟩
    | ret=>exact ⟨_,a₁,w₁,⟨l',hr',hq⟩,.pass (x := .inLoop c) rfl (fun _ _ => .inl (by simp)) harr⟩
    | panic ch=>exact ⟨_,a₁,w₁,⟨l',hr',hq⟩,.pass (x := .inLoop c) rfl (fun _ _ => .inl (by simp)) harr⟩
    | outgrown=>exact ⟨_,a₁,w₁,⟨l',hr',hq⟩,.pass (x := .inLoop c) rfl (fun _ _ => .inl (by simp)) harr⟩
 obtain ⟨e,a',w',hq,harr⟩:=key _ x0 rfl h0 act w hr0
 exact ⟨e,a',w',hq,.of_steps (.one step_loop) harr⟩
def kN (T:Nat→TE) (l:SL):List ResultVar→(List D→Prop)→Prop
 | [],K=>K []
 | .tmp t::rs,K=>yu l.env t fun v=>XP v (jF l.hp) fun d _=>kN T l rs fun ds=>K (d::ds)
 | .cell x t::rs,K=>yu l.env x fun v=>BH (T t) [v] (jF l.hp) fun y _ _ _=>XP y (jF l.hp) fun d _=>kN T l rs fun ds=>K (d::ds)
def alH (T:Nat→TE) (rs:List ResultVar) (ds:List D):Exit→SL→Prop
 | .ret,l=>kN T l rs fun ds'=>ds'=ds
 | .normal,l=>kN T l rs fun ds'=>ds'=ds
 | _,_=>False
theorem IU {t:Nat} {vx v:Value} {w:World} (h:(Instr.loadAt t vx).run P w = .ok v w):(do loadVar t (← asAddr vx)).run P w = .ok v w:=by
 cases vx with
 | pointer a=>cases a with
   | none=>simp [Instr.loadAt,Instr.sureAddr] at h
   | some a=>simpa [Instr.loadAt,Instr.sureAddr,asAddr] using h
 | _=>simp [Instr.loadAt,Instr.sureAddr] at h
def wG (tmps:Array Value):ResultVar→Sem Value
 | .tmp t=>pure (tmps.getD t undef)
 | .cell a t=>do loadVar t (← asAddr (tmps.getD a undef))
theorem sJ (fn:Func) (tmps:Array Value):results fn tmps=(do let vs ← fn.results.mapM (wG tmps);pure (if h:vs.size=1 then vs[0] else .tuple vs)):=by
 unfold results
 congr 1
theorem lD (hT:TOK P T) {β:Nat→Value} {ok:Nat→Prop} {a:Act} {w:World} (h:RelB C β ok l.toS a w) {ok':Nat→Prop} (hok:∀ b,ok b→ok' b) (hown:∀ k r b,jF l.hp k=some r→Blk β w k r b→ok' b) :
  ∀ {rs:List ResultVar} {K:List D→Prop},kN T l rs K→∃ ds,K ds∧ds.length=rs.length∧∃ vs:List Value,
    (rs.mapM (wG a.tmps)).run P w = .ok vs w∧vs.length=rs.length ∧
    ∀ (i:Nat) v d,vs[i]?=some v→ds[i]?=some d→RdD ok' w v d
 | [],K,hK=>⟨[],hK,rfl,[],by simp,rfl,fun i v d hv=>by simp at hv⟩
 | .tmp t::rs,K,hK=>by
   unfold kN at hK
   rw [jM] at hK
   obtain ⟨d,rd,h1,h2⟩:=xE hK
   obtain ⟨ds,h3,h4,vs,h5,h6,h7⟩:=lD hT h hok hown h1
   have hd:RdD ok' w (a.tmps.getD t undef) d:=h2 β l.toS.used ok ok' w _ (h.env t) (fun k hk r hr=>⟨(h.heap k r hr).2,fun b hb=>hown k r b hr hb⟩) hok
   refine ⟨d::ds,h3,by simp [h4],a.tmps.getD t undef::vs,?_,by simp [h6],fun i v d' hv hd'=>?_⟩
   ·rw [List.mapM_cons]
    simp only [wG,Sem.run_bind,Sem.run_pure,Result.andThen_ok,h5]
   ·cases i with
    | zero=>simp at hv hd';subst hd';rw [← hv];simpa using hd
    | succ i=>exact h7 i v d' (by simpa using hv) (by simpa using hd')
 | .cell x t::rs,K,hK=>by
   unfold kN at hK
   rw [jM] at hK
   obtain ⟨v0,y,rd,e0,hK1,hrun⟩:=BG hT hK
   simp only [List.cons.injEq,and_true] at e0
   obtain ⟨d,rd',h1,h2⟩:=xE hK1
   obtain ⟨ds,h3,h4,vs,h5,h6,h7⟩:=lD hT h hok hown h1
   obtain ⟨v,f1,f2⟩:=hrun β l.toS.used ok w (a.tmps.getD x undef) (by rw [← e0];exact h.env x) (fun k hk r hr=>(h.heap k r hr).2)
   have hd:RdD ok' w v d:=h2 β l.toS.used ok ok' w _ f2 (fun k hk r hr=>⟨(h.heap k r hr).2,fun b hb=>hown k r b hr hb⟩) hok
   refine ⟨d::ds,h3,by simp [h4],v::vs,?_,by simp [h6],fun i v' d' hv hd'=>?_⟩
   ·rw [List.mapM_cons]
    have:=IU f1
    simp only [wG,Sem.run_bind] at this ⊢
    rw [this]
    simp only [Result.andThen_ok,h5,Sem.run_pure]
   ·cases i with
    | zero=>simp at hv hd';subst hd';rw [← hv];exact hd
    | succ i=>exact h7 i v' d' (by simpa using hv) (by simpa using hd')
def BL:Nat→List D→List (Nat×V)
 | _,[]=>[]
 | k,d::ds=>(k,.d d)::BL (k+1) ds
theorem Bg:∀ (ds:List D) (k t:Nat),jZ (BL k ds) t=if k≤t then (match ds[t-k]? with | some d => .d d | none => .any) else .any
 | [],k,t=>by simp [BL,jZ]
 | d::ds,k,t=>by
   unfold BL jZ
   cases h:Nat.beq k t with
   | true=>rw [← Nat.eq_of_beq_eq_true h];simp
   | false=>
     have hne:k≠t:=fun e=>by rw [e,Nat.beq_refl] at h;cases h
     simp only
     rw [Bg ds (k+1) t]
     by_cases hkt:k≤t
     ·rw [if_pos (by omega),if_pos hkt,show t-k=(t-(k+1))+1 by omega]
      simp
     ·rw [if_neg (by omega),if_neg hkt]
theorem kP {fn:Func} {a:Act} {w:World} {vs:List Value} (h:(fn.results.toList.mapM (wG a.tmps)).run P w = .ok vs w) :
  (results fn a.tmps).run P w = .ok (match vs with | [v]=>v | vs => .tuple vs.toArray) w:=by
 rw [sJ,Sem.run_bind]
 have:(fn.results.mapM (wG a.tmps)).run P w = .ok vs.toArray w:=by
  rw [Array.mapM_eq_mapM_toList]
  simp only [Sem.run_map,h,Result.andThen_ok]
 rw [this]
 simp only [Result.andThen_ok,Sem.run_pure]
 match vs with
 | []=>rfl
 | [v]=>rfl
 | v::u::r=>simp
theorem Pure.of_wp (hT:TOK P T) {f:FuncId} {fn:Func} {c:Code} {nt:Nat} {ds rs:List D} (hf:P.funcs[f]?=some fn) (hb:fn.body=some c) (hname:(fn.name == "runtime.NumGoroutine")=false) (hnt:fn.ntmps=nt) (hle:Nat.ble ds.length nt=true) (hok:codeOk nt c=true)
  (h:∀ w0 ok0 β0,WP P ⟨w0,ok0,fun _ _=>False,nt,β0,[]⟩ c (alH T fn.results.toList rs) ⟨BL 0 ds,[],[]⟩):Pure P f ds rs:=by
 refine ⟨⟨fn,hf,hname,by rw [hb];rfl⟩,fun ok w vs hgl hokb hsz hrd=>calls_of_wp hf hb ?_⟩
 have hle':ds.length≤nt:=Nat.le_of_ble_eq_true hle
 let C:Ctx:=⟨w,ok,fun _ _=>False,nt,fun _=>undef,[]⟩
 have hrel:Rel C (SL.toS ⟨BL 0 ds,[],[]⟩) { tmps:=vs++Array.replicate (fn.ntmps-vs.size) undef,defers:=[] } w:=by
  refine ⟨fun _=>undef,ok,rfl,?_,fun t=>?_,fun k r hr=>(by cases hr),fun k r b hr=>(by cases hr),fun k k' r r' b hr=>(by cases hr),hokb,fun b hb=>hb,fun b hb => .inl hb,Frame.refl _ _,fun i hi=>(by cases hi),hgl⟩
  ·show (vs++Array.replicate (fn.ntmps-vs.size) undef).size=nt
   simp [hsz,hnt];omega
  ·show RdV _ _ _ _ _ (jZ (BL 0 ds) t)
   rw [Bg]
   simp only [Nat.zero_le,if_true,Nat.sub_zero]
   cases hd:ds[t]? with
   | none=>exact .any _
   | some d=>
     have ht:t<vs.size:=by rw [hsz];exact (List.getElem?_eq_some_iff.1 hd).1
     have hv:vs[t]?=some vs[t]:=by simp [ht]
     have e:(vs++Array.replicate (fn.ntmps-vs.size) undef).getD t undef=vs[t]:=by
      simp [Array.getElem?_append_left ht,ht]
     rw [e]
     exact .d _ _ (hrd t _ d hv hd)
 refine wp_mono (h w ok (fun _=>undef) hok _ w hrel) ?_
 have fin:∀ (l':SL) (a':Act) (w':World),Rel C l'.toS a' w'→(kN T l' fn.results.toList fun ds'=>ds'=rs)→a'.defers=[]∧∃ v,(results fn a'.tmps).run P w' = .ok v w' ∧
   ∃ v',Ending.returned v = .returned v'∧Frame (fun _ _=>False) w w'∧KA (fun b=>ok b∨(w.heap.size≤b∧b<w'.heap.size)) w' v' rs:=fun l' a' w' ⟨β,ok',hr⟩ hq=>by
  obtain ⟨ds',h1,h2,vs',h3,h4,h5⟩:=lD hT hr (ok':=fun b=>ok b∨(w.heap.size≤b∧b<w'.heap.size)) (fun b hb=>by
   rcases hr.okn b hb with h' | h' | h'
   ·exact .inl h'
   ·exact .inr ⟨h',hr.okb b hb⟩
   ·exact (h' 0).elim) (fun k r b hr' hb'=>by
   obtain ⟨_,s2,s3⟩:=hr.sep k r b hr' hb'
   refine .inr ⟨?_,s2⟩
   rcases Nat.lt_or_ge b w.heap.size with hlt | hge
   ·have:=s3 hlt
    cases r with
    | cell _=>exact this.2.elim
    | arr _ _=>exact (this 0).elim
    | map _=>exact (this 0).elim
    | rows _ _ _=>exact (this 0).elim
   ·exact hge) hq
  subst h1
  refine ⟨hr.defers,_,kP h3,_,rfl,hr.frame,?_⟩
  match ds',vs',h2,h4,h5 with
  | [],[],_,_,h5=>exact ⟨#[],rfl,rfl,fun i u r hu=>by simp at hu⟩
  | [d],[v],_,_,h5=>exact h5 0 v d rfl rfl
  | d::d2::dr,v::v2::vr,h2,h4,h5=>exact ⟨_,rfl,(by simp at h2 h4 ⊢;omega),fun i u r hu hr'=>h5 i u r (by simpa using hu) hr'⟩
  | [],v::vr,h2,h4,_=>simp at h2 h4;omega
  | [d],[],h2,h4,_=>simp at h2 h4;omega
  | [d],v::v2::vr,h2,h4,_=>simp at h2 h4;omega
  | d::d2::dr,[],h2,h4,_=>simp at h2 h4;omega
  | d::d2::dr,[v],h2,h4,_=>simp at h2 h4;omega
 rintro e a' w' ⟨l',hr,hq⟩
 cases e with
 | normal=>exact fin l' a' w' hr hq
 | ret=>exact fin l' a' w' hr hq
 | exit id=>exact hq.elim
 | goto l=>exact hq.elim
 | panic ch=>exact hq.elim
 | outgrown=>exact hq.elim
end
end Go.Abs
namespace Go.Abs
open Go Go.RowKit
section
variable {P:Program} {T:Nat→TE} {C:Ctx} {Q:Exit→SL→Prop} {l:SL}
end
end Go.Abs
