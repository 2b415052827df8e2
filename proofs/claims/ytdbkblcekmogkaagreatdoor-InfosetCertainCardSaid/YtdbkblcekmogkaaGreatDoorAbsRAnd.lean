/- States as lists; the walk's rules. -/
import Derived.Test.YtdbkblcekmogkaaGreatDoorAbsPAnd
set_option linter.unusedVariables false
set_option linter.unusedSimpArgs false
set_option linter.all false
namespace Go.Abs
open Go Go.RowKit
structure SL where
 env:List (Nat×V)
 hp:List (Key×Option Res)
 used:List Nat
def iI:List (Nat×V)→Nat→V
 | [],_ => .any
 | (t',v)::r,t=>match Nat.beq t' t with | true=>v | false=>iI r t
def ET (a b:Key):Bool:=match Nat.beq a.1 b.1 with | true=>Nat.beq a.2 b.2 | false=>false
theorem lW {a b:Key}:ET a b=true↔a=b:=by
 obtain ⟨a1,a2⟩:=a
 obtain ⟨b1,b2⟩:=b
 unfold ET
 simp only [Prod.mk.injEq]
 cases h:Nat.beq a1 b1 with
 | true=>simp only [Nat.eq_of_beq_eq_true h,true_and];exact ⟨fun h=>Nat.eq_of_beq_eq_true h,fun h=>by rw [h];exact Nat.beq_refl b2⟩
 | false=>
   constructor
   ·intro h';cases h'
   ·rintro ⟨rfl,_⟩;rw [Nat.beq_refl] at h;cases h
def iE:List (Key×Option Res)→Key→Option Res
 | [],_=>none
 | (k',r)::l,k=>match ET k' k with | true=>r | false=>iE l k
def SL.toS (l:SL):S:={ env:=iI l.env,hp:=iE l.hp,used:=fun i=>i∈l.used }
def qF:List (Nat×V)→Nat→(V→Prop)→Prop
 | [],_,K=>K .any
 | (t',v)::r,t,K=>match Nat.beq t' t with | true=>K v | false=>qF r t K
theorem iC {K:V→Prop} {t:Nat}:∀ {env:List (Nat×V)},qF env t K↔K (iI env t)
 | []=>Iff.rfl
 | (t',v)::r=>by
   unfold qF iI
   cases Nat.beq t' t with
   | true=>exact Iff.rfl
   | false=>exact iC (env:=r)
def opK (l:SL) (x:Operand) (K:V→Prop):Prop:=
 match x with
 | .tmp t=>qF l.env t K
 | .const v=>match v with
   | .bool b=>K (.d (.bool b))
   | .int k n=>K (.d (.int k n))
   | v=>K (F8 v)
 | .global _=>K .any
 | .func f=>K (.func (.func f) [] [])
theorem MO {l:SL} {x:Operand} {K:V→Prop}:opK l x K↔K (l.toS.ev x):=by
 cases x with
 | tmp t=>exact iC
 | const v=>cases v<;>exact Iff.rfl
 | global g=>exact Iff.rfl
 | func f=>exact Iff.rfl
def GY (l:SL):List Operand→(List V→Prop)→Prop
 | [],K=>K []
 | x::xs,K=>opK l x fun v=>GY l xs fun vs=>K (v::vs)
theorem BJ {l:SL}:∀ {xs:List Operand} {K:List V→Prop},GY l xs K↔K (xs.map l.toS.ev)
 | [],K=>Iff.rfl
 | x::xs,K=>by
   unfold GY
   rw [MO,BJ]
   exact Iff.rfl
def aX:Op→List Operand
 | .alloc _ | .ready _ | .waits _=>[]
 | .move x | .assign x | .box _ x | .load _ x | .nilCheck x | .unOp _ _ x | .convert _ _ x | .sliceToArrayPointer _ x | .makeInterface _ x
 | .makeChan _ x | .fieldAddr _ x _ | .field _ x _ | .range _ x | .next x _ | .entry x | .typeAssert x _ _ _ | .extract x _ | .panic x | .recv _ x _=>[x]
 | .pick c a b=>[c,a,b]
 | .build _ ⟨ps⟩ | .buildSlice _ _ ⟨ps⟩=>ps.map (·.2)
 | .store _ a v | .binOp _ _ a v _ | .makeSlice _ a v | .indexAddr _ a v | .index _ a v | .lookup _ a v _ | .mapEntry _ a v | .send a v=>[a,v]
 | .makeFunc _ ⟨first⟩ ⟨captured⟩=>first++captured
 | .makeMap _ r=>r.toList
 | .slice _ x l h m=>[x]++l.toList++h.toList++m.toList
 | .mapUpdate _ m k v | .entryStore _ m k v | .insert _ m k v=>[m,k,v]
 | .call c=>match c.callee,c.args with
   | .value f,⟨as⟩=>f::as
   | .invoke r _,⟨as⟩=>r::as
   | .builtin _,⟨as⟩=>as
 | op=>op.operands.toList
theorem oq (op:Op):op.operands.toList=aX op:=by
 cases op<;>simp [aX,Op.operands]
 case call c=>
  obtain ⟨callee,⟨as⟩,tys⟩:=c
  cases callee<;>simp [Call.operands]
def aer (t:Option Tmp):List Nat→Bool
 | []=>false
 | x::xs=>match t with | some d=>Nat.beq d x||aer t xs | none=>false
def inB (i:Nat):List Nat→Bool
 | []=>false
 | x::xs=>match Nat.beq i x with | true=>true | false=>inB i xs
theorem vI {i:Nat}:∀ {l:List Nat},inB i l=false→i∉l
 | [],_=>by simp
 | x::xs,h=>by
   unfold inB at h
   split at h
   ·cases h
   ·rename_i hx
    have h2:=vI h
    simp only [List.mem_cons,not_or]
    exact ⟨(fun e=>by rw [e,Nat.beq_refl] at hx;cases hx),h2⟩
def vN:List Nat→List Nat→Bool
 | [],_=>true
 | i::is,l=>match inB i l with | true=>false | false=>vN is l
theorem oH:∀ {is l:List Nat},vN is l=true→∀ i∈is,i∉l
 | [],l,_,i,hi=>by cases hi
 | j::is,l,h,i,hi=>by
   unfold vN at h
   split at h
   ·cases h
   ·rename_i hj
    rcases List.mem_cons.1 hi with rfl | hi
    ·exact vI hj
    ·exact oH h i hi
def Hy {α:Type}:List α→List α→(List α→Prop)→Prop
 | [],l,K=>K l
 | x::xs,l,K=>Hy xs l fun r=>K (x::r)
theorem uY {α:Type}:∀ {xs l:List α} {K:List α→Prop},Hy xs l K↔K (xs++l)
 | [],l,K=>Iff.rfl
 | x::xs,l,K=>by unfold Hy;exact uY
structure Ft where
 rd:List Key
 wr:List Key
 nw:List Nat
def SL.wu (l:SL) (dst:Option Tmp) (x:V) (δ:List (Key×Option Res)) (nw:List Nat) (K:SL→Prop):Prop:=
 match l with
 | ⟨env,hp,used⟩=>Hy δ hp fun hp'=>Hy nw used fun used'=>match dst with
   | some t=>K ⟨(t,x)::env,hp',used'⟩
   | none=>K ⟨env,hp',used'⟩
theorem wW {δ hp:List (Key×Option Res)}:iE (δ++hp)=kT (iE hp) δ:=by
 funext k
 induction δ with
 | nil=>rfl
 | cons e δ ih=>
   obtain ⟨k',r⟩:=e
   show (match ET k' k with | true=>r | false=>iE (δ++hp) k)=if k'=k then r else kT (iE hp) δ k
   rw [← ih]
   cases h:ET k' k with
   | true=>rw [if_pos (lW.1 h)]
   | false=>rw [if_neg (fun e=>by rw [lW.2 e] at h;cases h)]
theorem xA {l:SL} {dst:Option Tmp} {x:V} {δ:List (Key×Option Res)} {nw:List Nat} {K:SL→Prop} (h:l.wu dst x δ nw K):∃ l',K l'∧l'.toS=l.toS.apply dst x δ nw:=by
 obtain ⟨env,hp,used⟩:=l
 unfold SL.wu at h
 simp only at h
 rw [uY,uY] at h
 have hu:(fun i=>i∈nw++used)=fun i=>i∈used∨i∈nw:=by
  funext i;simp [or_comm]
 cases dst with
 | none=>
   refine ⟨_,h,?_⟩
   simp only [SL.toS,S.apply,wW,hu]
   congr 1
 | some d=>
   refine ⟨_,h,?_⟩
   simp only [SL.toS,S.apply,wW,hu]
   congr 1
   funext t
   show (match Nat.beq d t with | true=>x | false=>iI env t)=if some d=some t then x else iI env t
   cases e:Nat.beq d t with
   | true=>rw [if_pos (by rw [Nat.eq_of_beq_eq_true e])]
   | false=>rw [if_neg (fun e'=>by cases e';rw [Nat.beq_refl] at e;cases e)]
def Au:List Oper→Nat→Option Tmp
 | [],_=>none
 | o::_,0=>o.dst
 | _::os,j+1=>Au os j
theorem Ar:∀ (os:List Oper) (j:Nat),Au os j=(os[j]?).bind (·.dst)
 | [],j=>rfl
 | o::os,0=>rfl
 | o::os,j+1=>by simpa [Au] using Ar os j
def ag5 (o:Oper):Nat:=match o.dst with | some d=>d | none=>0
def KX (v:V) (want:Bool) (A B:Prop):Prop:=match v with
 | .undef=>B
 | v=>LX v fun b=>match want with | true=>yK b A B | false=>yK b B A
theorem I8 {v:V} {want:Bool} {A B:Prop} (h:KX v want A B):(v = .undef∧B)∨∃ b,v = .d (.bool b)∧((b=want∧A)∨(b=!want∧B)):=by
 unfold KX at h
 split at h
 ·exact .inl ⟨rfl,h⟩
 ·obtain ⟨b,hb,hAB⟩:=qP h
  refine .inr ⟨b,hb,?_⟩
  cases want with
  | true=>
    rcases pq hAB with ⟨e,hA⟩ | ⟨e,hB⟩
    ·exact .inl ⟨e,hA⟩
    ·exact .inr ⟨e,hB⟩
  | false=>
    rcases pq hAB with ⟨e,hB⟩ | ⟨e,hA⟩
    ·exact .inr ⟨e,hB⟩
    ·exact .inl ⟨e,hA⟩
def Ro (P:Program) (T:Nat→TE) (M:List Nat) (os:List Oper) (o:Oper) (l:SL) (K:SL→Ft→Prop):Prop:=
 let A:=GY l (aX o.op) fun vals=>X4 P T (aer o.dst M) o vals (iE l.hp) (ag5 o) fun x δ rd nw=>bV (vN nw l.used) (l.wu o.dst x δ nw fun l'=>K l' ⟨rd,δ.map (·.1),nw⟩)
 let B:=l.wu o.dst .undef [] [] fun l'=>K l' ⟨[],[],[]⟩
 match o.guard with
 | none=>A
 | some (j,want)=>match Au os j with
   | some d=>qF l.env d fun v=>KX v want A B
   | none=>False
def oI (y:Y):Ft:=⟨y.rd,y.δ.map (·.1),y.nw⟩
theorem G9 {P:Program} {T:Nat→TE} (hT:TOK P T) {M:List Nat} {ops:Array Oper} {o:Oper} {l:SL} {K:SL→Ft→Prop} (h:Ro P T M ops.toList o l K) :
  ∃ y l',K l' (oI y)∧Yields P ops o y l.toS∧l'.toS=l.toS.after o y:=by
 unfold Ro at h
 have goA:(GY l (aX o.op) fun vals=>X4 P T (aer o.dst M) o vals (iE l.hp) (ag5 o) fun x δ rd nw=>bV (vN nw l.used) (l.wu o.dst x δ nw fun l'=>K l' ⟨rd,δ.map (·.1),nw⟩)) →
   dX ops o l.toS=some true→∃ y l',K l' (oI y)∧Yields P ops o y l.toS∧l'.toS=l.toS.after o y:=fun h hw=>by
  rw [BJ] at h
  obtain ⟨x,δ,rd,nw,h1,h2⟩:=Le hT h
  obtain ⟨h3,h4⟩:=aH h1
  obtain ⟨l',h5,h6⟩:=xA h4
  exact ⟨⟨x,δ,rd,nw⟩,l',h5,.inl ⟨hw,iE l.hp,by rw [oq];exact h2,fun k hk=>rfl,fun i hi=>oH h3 i hi⟩,h6⟩
 have goB:(l.wu o.dst .undef [] [] fun l'=>K l' ⟨[],[],[]⟩)→dX ops o l.toS=some false→∃ y l',K l' (oI y)∧Yields P ops o y l.toS∧l'.toS=l.toS.after o y:=fun h hw=>by
  obtain ⟨l',h5,h6⟩:=xA h
  exact ⟨⟨.undef,[],[],[]⟩,l',h5,.inr ⟨hw,rfl⟩,h6⟩
 split at h
 ·rename_i hg
  exact goA h (by unfold dX;rw [hg])
 ·rename_i j want hg
  split at h
  ·rename_i d hd
   rw [iC] at h
   have e:(ops[j]?).bind (·.dst)=some d:=by rw [← hd,Ar];simp
   rcases I8 h with ⟨hun,hB⟩ | ⟨b,hb,hAB⟩
   ·refine goB hB ?_
    unfold dX
    rw [hg]
    simp only [e]
    show (match iI l.env d with | .d (.bool b)=>some (b==want) | .undef=>some false | _=>none)=_
    rw [hun]
   ·have hw:dX ops o l.toS=some (b==want):=by
     unfold dX
     rw [hg]
     simp only [e]
     show (match iI l.env d with | .d (.bool b)=>some (b==want) | .undef=>some false | _=>none)=_
     rw [hb]
    rcases hAB with ⟨e,hA⟩ | ⟨e,hB⟩
    ·exact goA hA (by rw [hw,e];simp)
    ·exact goB hB (by rw [hw,e];cases want<;>rfl)
  ·exact h.elim
def XE (k:Key):List Key→Bool
 | []=>false
 | x::xs=>match ET k x with | true=>true | false=>XE k xs
theorem zy {k:Key}:∀ {l:List Key},XE k l=false→k∉l
 | [],_=>by simp
 | x::xs,h=>by
   unfold XE at h
   split at h
   ·cases h
   ·rename_i hx
    simp only [List.mem_cons,not_or]
    exact ⟨(fun e=>by rw [lW.2 e] at hx;cases hx),zy h⟩
def DL:List Key→List Key→Bool
 | [],_=>true
 | k::ks,l=>match XE k l with | true=>false | false=>DL ks l
theorem mX:∀ {ks l:List Key},DL ks l=true→∀ k∈ks,k∉l
 | [],l,_,k,hk=>by cases hk
 | j::ks,l,h,k,hk=>by
   unfold DL at h
   split at h
   ·cases h
   ·rename_i hj
    rcases List.mem_cons.1 hk with rfl | hk
    ·exact zy hj
    ·exact mX h k hk
def apartB (x y:Ft):Bool:=DL x.wr y.rd&&DL x.wr y.wr&&DL y.wr x.rd&&vN x.nw y.nw
theorem Js {x y:Y} (h:apartB (oI x) (oI y)=true):Apart x y:=by
 simp only [apartB,Bool.and_eq_true,oI] at h
 obtain ⟨⟨⟨h1,h2⟩,h3⟩,h4⟩:=h
 have hm:∀ (y:Y) k r,(k,r)∈y.δ→k∈y.δ.map (·.1):=fun y k r hk=>List.mem_map.2 ⟨_,hk,rfl⟩
 exact ⟨fun k r hk=>⟨mX h1 k (hm x k r hk),fun r' hr'=>mX h2 k (hm x k r hk) (hm y k r' hr')⟩,fun k r hk=>mX h3 k (hm y k r hk),oH h4⟩
def qO (i:Nat):List Edge→Bool
 | []=>false
 | e::es=>match Region.binds .any e&&Nat.beq e.on i with | true=>true | false=>qO i es
theorem nP {i:Nat}:∀ {es:List Edge},qO i es=true→∃ e∈es,Region.binds .any e=true∧e.on=i
 | [],h=>by cases h
 | e::es,h=>by
   unfold qO at h
   split at h
   ·rename_i he
    simp only [Bool.and_eq_true] at he
    exact ⟨e,by simp,he.1,Nat.eq_of_beq_eq_true he.2⟩
   ·obtain ⟨e',h1,h2⟩:=nP h
    exact ⟨e',by simp [h1],h2⟩
def chk (es:List Edge) (fp:Ft):List (Nat×Ft)→Bool
 | []=>true
 | (i,f)::acc=>match qO i es||apartB f fp with | true=>chk es fp acc | false=>false
theorem Jl {es:List Edge} {fp:Ft}:∀ {acc:List (Nat×Ft)},chk es fp acc=true→∀ i f,(i,f)∈acc→qO i es=true∨apartB f fp=true
 | [],_,i,f,hm=>by cases hm
 | (j,g)::acc,h,i,f,hm=>by
   unfold chk at h
   split at h
   ·rename_i hj
    rcases List.mem_cons.1 hm with hm | hm
    ·cases hm;simpa using hj
    ·exact Jl h i f hm
   ·cases h
def yR (P:Program) (T:Nat→TE) (M:List Nat) (draw:Bool) (all:List Oper):List Oper→Nat→List (Nat×Ft)→SL→(SL→Prop)→Prop
 | [],_,_,l,K=>K l
 | o::os,k,acc,l,K=>Ro P T M all o l fun l' fp=>match draw with
   | false=>yR P T M draw all os (k+1) acc l' K
   | true=>bV (chk o.after.toList fp acc) (yR P T M draw all os (k+1) ((k,fp)::acc) l' K)
theorem yQ {P:Program} {T:Nat→TE} (hT:TOK P T) {M:List Nat} {draw:Bool} {ops:Array Oper} {K:SL→Prop}:∀ (os:List Oper) (k:Nat) (acc:List (Nat×Ft)) (l:SL) (ys0:Nat→Y),
  yR P T M draw ops.toList os k acc l K→(draw=true→∀ i,i<k→(i,oI (ys0 i))∈acc) →
  ∃ ys:Nat→Y,(∀ i,i<k→ys i=ys0 i)∧Qw P ops ys (fun s=>∃ l',s=l'.toS∧K l') os k l.toS ∧
    (draw=true→∀ i j oj,os[j]?=some oj→i<k+j→(∀ e∈oj.after,Region.binds .any e=true→e.on≠i)→Apart (ys i) (ys (k+j)))
 | [],k,acc,l,ys0,h,_=>⟨ys0,fun _ _=>rfl,⟨l,rfl,h⟩,fun _ i j oj hj=>by simp at hj⟩
 | o::os,k,acc,l,ys0,h,hacc=>by
   unfold yR at h
   obtain ⟨y,l',h1,h2,h3⟩:=G9 hT h
   let ys1:Nat→Y:=fun i=>if i=k then y else ys0 i
   have hk:ys1 k=y:=by simp [ys1]
   have hlt:∀ i,i<k→ys1 i=ys0 i:=fun i hi=>by simp only [ys1];rw [if_neg (by omega)]
   have key:∃ acc',yR P T M draw ops.toList os (k+1) acc' l' K∧(draw=true→∀ i,i<k+1→(i,oI (ys1 i))∈acc')∧(draw=true→∀ i,i<k→(∀ e∈o.after,Region.binds .any e=true→e.on≠i)→Apart (ys1 i) y):=by
    cases draw with
    | false=>exact ⟨acc,h1,(fun h=>by cases h),(fun h=>by cases h)⟩
    | true=>
      obtain ⟨hc,h1⟩:=aH h1
      refine ⟨_,h1,fun _ i hi=>?_,fun _ i hi hno=>?_⟩
      ·rcases Nat.lt_or_ge i k with hik | hik
       ·rw [hlt i hik];exact List.mem_cons_of_mem _ (hacc rfl i hik)
       ·have:i=k:=by omega
        subst this;rw [hk];exact List.mem_cons_self
      ·rcases Jl hc i _ (hacc rfl i hi) with hw | hap
       ·obtain ⟨e,he,hb,hon⟩:=nP hw
        exact absurd hon (hno e (by simpa using he) hb)
       ·rw [hlt i hi];exact Js hap
   obtain ⟨acc',hr,ha,hn⟩:=key
   obtain ⟨ys,g1,g2,g3⟩:=yQ hT os (k+1) acc' l' ys1 hr ha
   have hyk:ys k=y:=(g1 k (by omega)).trans hk
   refine ⟨ys,fun i hi=>(g1 i (by omega)).trans (hlt i hi),⟨by rw [hyk];exact h2,by rw [hyk,← h3];exact g2⟩,fun hd i j oj hj hij hno=>?_⟩
   cases j with
   | zero=>
     simp at hj
     subst hj
     have:=hn hd i (by omega) hno
     rw [← g1 i (by omega)] at this
     rw [Nat.add_zero,hyk]
     exact this
   | succ j=>
     have:=g3 hd i j oj (by simpa using hj) (by omega) hno
     rw [show k+(j+1)=k+1+j by omega]
     exact this
def iG (x:Nat):List Nat→Bool
 | []=>false
 | y::ys=>match Nat.beq x y with | true=>true | false=>iG x ys
theorem EP (x:Nat):∀ l:List Nat,iG x l=l.contains x
 | []=>rfl
 | y::ys=>by
   unfold iG
   rw [List.contains_cons,← EP x ys]
   by_cases e:x=y
   ·subst e;simp
   ·have:Nat.beq x y=false:=by cases h:Nat.beq x y with
     | true=>exact absurd (Nat.eq_of_beq_eq_true h) e
     | false=>rfl
    simp [this,e]
def tmpsOf:List Operand→List Nat
 | []=>[]
 | .tmp t::r=>t::tmpsOf r
 | _::r=>tmpsOf r
theorem BM:∀ l:List Operand,tmpsOf l=l.filterMap fun | .tmp t=>some t | _=>none
 | []=>rfl
 | x::r=>by cases x<;>simp [tmpsOf,BM r]
def dN (os:List Oper) (o:Oper):List Nat:=
 tmpsOf o.op.operands.toList++(match o.guard with
  | some (g,_)=>match Au os g with | some d=>[d] | none=>[]
  | none=>[])
theorem CQ (ops:Array Oper) (o:Oper):dN ops.toList o=o.looksAt ops:=by
 unfold dN Oper.looksAt
 rw [BM]
 congr 1
 cases o.guard with
 | none=>rfl
 | some gw=>
   obtain ⟨g,wt⟩:=gw
   have e:(ops[g]?).bind (·.dst)=Au ops.toList g:=by rw [Ar];simp
   simp only [e]
   cases Au ops.toList g<;>rfl
def GL (d1:Option Nat) (l1:List Nat) (d2:Option Nat) (l2:List Nat):Bool:=
 match (match d1 with
  | some d=>match iG d l2 with | true=>false | false=>(match d2 with | some d'=>!Nat.beq d' d | none=>true)
  | none=>true) with
 | true=>(match d2 with | some d=>!iG d l1 | none=>true)
 | false=>false
theorem Jr {ops:Array Oper} {x y:Oper} (h:GL x.dst (dN ops.toList x) y.dst (dN ops.toList y)=true):x.apart ops y=true:=by
 rw [CQ,CQ] at h
 unfold GL at h
 unfold Oper.apart
 split at h
 ·rename_i h1
  rw [Bool.and_eq_true]
  constructor
  ·split at h1
   ·rename_i d hd
    simp only [hd]
    split at h1
    ·cases h1
    ·rename_i hm
     rw [EP] at hm
     rw [hm]
     cases hy:y.dst with
     | none=>rfl
     | some d'=>
       rw [hy] at h1
       simp only at h1
       have hne:d'≠d:=by intro e;subst e;simp at h1
       simp [hne]
   ·rename_i hd;simp only [hd]
  ·split at h
   ·rename_i d hd;simp only [hd];rw [← EP];exact h
   ·rename_i hd;simp only [hd]
 ·cases h
def Am (k:Nat):List Edge→Bool
 | []=>true
 | e::es=>match Region.binds .any e with
   | true=>(match Nat.blt e.on k with | true=>Am k es | false=>false)
   | false=>Am k es
theorem oN {k:Nat}:∀ {es:List Edge},Am k es=true→∀ e∈es,Region.binds .any e=true→e.on<k
 | [],_,e,he,_=>by cases he
 | x::es,h,e,he,hb=>by
   unfold Am at h
   split at h
   ·split at h
    ·rename_i h2
     rcases List.mem_cons.1 he with rfl | he
     ·exact Nat.le_of_ble_eq_true h2
     ·exact oN h e he hb
    ·cases h
   ·rename_i h1
    rcases List.mem_cons.1 he with rfl | he
    ·rw [hb] at h1;cases h1
    ·exact oN h e he hb
def Ku:Op→Bool
 | .select ..=>false
 | _=>true
def y8 (es:List Edge) (d:Option Nat) (l:List Nat):List (Nat×Option Nat×List Nat)→Bool
 | []=>true
 | (i,di,li)::acc=>match qO i es with
   | true=>y8 es d l acc
   | false=>(match GL di li d l with | true=>y8 es d l acc | false=>false)
theorem oh {es:List Edge} {d:Option Nat} {l:List Nat}:∀ {acc:List (Nat×Option Nat×List Nat)},y8 es d l acc=true→∀ i di li,(i,di,li)∈acc→qO i es=true∨GL di li d l=true
 | [],_,i,di,li,h=>by cases h
 | (i',d',l')::acc,h,i,di,li,hm=>by
   unfold y8 at h
   split at h
   ·rename_i h1
    rcases List.mem_cons.1 hm with e | hm
    ·cases e;exact .inl h1
    ·exact oh h i di li hm
   ·split at h
    ·rename_i h2
     rcases List.mem_cons.1 hm with e | hm
     ·cases e;exact .inr h2
     ·exact oh h i di li hm
    ·cases h
def Je (all:List Oper):List Oper→Nat→List (Nat×Option Nat×List Nat)→Bool
 | [],_,_=>true
 | o::os,k,acc=>match Ku o.op with
   | true=>(match Am k o.after.toList with
     | true=>(match y8 o.after.toList o.dst (dN all o) acc with
       | true=>Je all os (k+1) ((k,o.dst,dN all o)::acc)
       | false=>false)
     | false=>false)
   | false=>false
theorem Ae {ops:Array Oper}:∀ (os:List Oper) (k:Nat) (acc:List (Nat×Option Nat×List Nat)),Je ops.toList os k acc=true→(∀ j,os[j]?=ops[k+j]?) →
  (∀ i oi,i<k→ops[i]?=some oi→(i,oi.dst,dN ops.toList oi)∈acc) →
  ∀ j oj,k≤j→ops[j]?=some oj→Ku oj.op=true∧(∀ e∈oj.after,Region.binds .any e=true→e.on<j) ∧
    ∀ i oi,i<j→ops[i]?=some oi→(∀ e∈oj.after,Region.binds .any e=true→e.on≠i)→oi.apart ops oj=true
 | [],k,acc,_,hl,_,j,oj,hj,hoj=>by
   have:=hl (j-k)
   rw [show k+(j-k)=j by omega,hoj] at this
   simp at this
 | o::os,k,acc,h,hl,hacc,j,oj,hj,hoj=>by
   unfold Je at h
   split at h
   case h_2=>cases h
   rename_i h1
   split at h
   case h_2=>cases h
   rename_i h2
   split at h
   case h_2=>cases h
   rename_i h3
   have h0:ops[k]?=some o:=by simpa using (hl 0).symm
   rcases Nat.lt_or_ge k j with hlt | hge
   ·refine Ae os (k+1) _ h (fun j=>by have:=hl (j+1);simpa [Nat.add_assoc,Nat.add_comm 1 j] using this) (fun i oi hi hoi=>?_) j oj hlt hoj
    rcases Nat.lt_or_ge i k with hik | hik
    ·exact List.mem_cons_of_mem _ (hacc i oi hik hoi)
    ·have:i=k:=by omega
     subst this
     rw [h0] at hoi;cases hoi
     exact List.mem_cons_self
   ·have:j=k:=by omega
    subst this
    rw [h0] at hoj;cases hoj
    refine ⟨h1,fun e he hb=>oN h2 e (by simpa using he) hb,fun i oi hi hoi hno=>?_⟩
    rcases oh h3 _ _ _ (hacc i oi hi hoi) with hw | hap
    ·obtain ⟨e,he,hb,hon⟩:=nP hw
     exact absurd hon (hno e (by simpa using he) hb)
    ·exact Jr hap
theorem QK {ops:Array Oper} (h:Je ops.toList ops.toList 0 []=true):Region.lexB .any ops=true:=by
 have key:=Ae ops.toList 0 [] h (fun j=>by simp) (fun i oi hi=>by omega)
 have main:∀ (n k:Nat) (listed:Array Bool),k+n=ops.size→listed.size=ops.size→(∀ j,j<ops.size→listed[j]?=some (decide (j<k)))→Region.lexFrom .any ops n k listed=true:=by
  intro n
  induction n with
  | zero=>
    intro k listed hk hs hl
    unfold Region.lexFrom
    rw [List.isEmpty_iff]
    refine List.eq_nil_iff_forall_not_mem.2 fun j hj=>?_
    obtain ⟨h1,o,ho,_⟩:=mem_ready.1 hj
    have hlt:=(Array.getElem?_eq_some_iff.1 ho).1
    have:=hl j hlt
    simp only [Array.getD_eq_getD_getElem?,this,Option.getD_some] at h1
    have:j<k:=by omega
    simp [this] at h1
  | succ n ih=>
    intro k listed hk hs hl
    unfold Region.lexFrom
    have hlt:k<ops.size:=by omega
    have h0:ops[k]?=some ops[k]:=by simp [hlt]
    simp only [Bool.and_eq_true]
    refine ⟨⟨?_,?_⟩,ih (k+1) _ (by omega) (by simpa using hs) (fun j hj=>?_)⟩
    ·rw [List.contains_iff_mem,mem_ready]
     refine ⟨by simp only [Array.getD_eq_getD_getElem?,hl k hlt];simp,ops[k],h0,fun e he hb=>?_⟩
     have h1:=(key k _ (Nat.zero_le _) h0).2.1 e he hb
     simp only [Array.getD_eq_getD_getElem?,hl e.on (by omega),Option.getD_some]
     simp [h1]
    ·unfold Region.free
     rw [h0]
     simp only [List.all_eq_true,List.mem_range]
     intro j hj
     have hj0:ops[j]?=some ops[j]:=by simp [hj]
     by_cases e:j=k
     ·simp [e]
     ·simp only [Array.getD_eq_getD_getElem?,hl j hj,Option.getD_some,hj0]
      rcases Nat.lt_or_ge j k with hjk | hjk
      ·simp [hjk]
      ·by_cases hw:∀ e∈ops[j].after,Region.binds .any e=true→e.on≠k
       ·have:=(key j _ (Nat.zero_le _) hj0).2.2 k _ (by omega) h0 hw
        simp [this]
       ·have:(ops[j].after.any fun e=>Region.binds .any e&&e.on==k)=true:=by
         cases hany:(ops[j].after.any fun e=>Region.binds .any e&&e.on==k) with
         | true=>rfl
         | false=>
           refine absurd (fun e he hb hon=>?_) hw
           have:(ops[j].after.any fun e=>Region.binds .any e&&e.on==k)=true:=Array.any_eq_true'.2 ⟨e,he,by simp [hb,hon]⟩
           rw [hany] at this
           cases this
        simp [this]
    ·by_cases e:k=j
     ·subst e;simp [hs,hj]
     ·rw [Array.getElem?_setIfInBounds_ne e,hl j hj]
      congr 1
      by_cases h':j<k
      ·simp [h'];omega
      ·simp [h'];omega
 simp only [Region.lexB,Bool.and_eq_true]
 refine ⟨?_,main ops.size 0 _ (by omega) (by simp) (fun j hj=>by simp [hj])⟩
 unfold Region.noSelect
 rw [Array.all_eq_true_iff_forall_mem]
 intro o ho
 obtain ⟨j,hj⟩:=Array.getElem?_of_mem ho
 have:=(key j o (Nat.zero_le _) hj).1
 unfold Ku at this
 split at this<;>simp_all
def codeOk (nt:Nat):Code→Bool
 | .region _ ops draw=>zh nt ops&&(!draw||Je ops.toList ops.toList 0 [])
 | .seq a b=>codeOk nt a&&codeOk nt b
 | .cond _ a b=>codeOk nt a&&codeOk nt b
 | .block _ c=>codeOk nt c
 | .loop c=>codeOk nt c
 | .skip | .exit _ | .ret=>true
 | _=>false
def WP (P:Program) (C:Ctx) (c:Code) (Q:Exit→SL→Prop) (l:SL):Prop:=
 codeOk C.nt c=true→∀ a w,Rel C l.toS a w→c.wp P (fun e a' w'=>∃ l',Rel C l'.toS a' w'∧Q e l') a w
section
variable {P:Program} {T:Nat→TE} {C:Ctx} {Q:Exit→SL→Prop} {l:SL}
theorem W2 (hT:TOK P T) (hm:P.follows .mixedOrders=true) (M:List Nat) {id:Nat} {ops:List Oper} {draw:Bool} (h:yR P T M draw ops ops 0 [] l fun l'=>Q .normal l'):WP P C (.region id ops.toArray draw) Q l:=by
 intro hok a w hr
 simp only [codeOk,Bool.and_eq_true] at hok
 obtain ⟨ys,_,h2,h3⟩:=yQ (ops:=ops.toArray) hT ops 0 [] l (fun _=>⟨.any,[],[],[]⟩) h (fun _ i hi=>by omega)
 have hQ:∀ s a w,Rel C s a w→(∃ l',s=l'.toS∧Q .normal l')→∃ l',Rel C l'.toS a w∧Q .normal l':=fun s a w hr ⟨l',e,hq⟩=>⟨l',e ▸ hr,hq⟩
 cases draw with
 | false=>exact yD (Q:=fun e a' w'=>∃ l',Rel C l'.toS a' w'∧Q e l') hok.1 hQ hr (by simpa using h2)
 | true=>
   refine xE (Q:=fun e a' w'=>∃ l',Rel C l'.toS a' w'∧Q e l') hm (QK (by simpa using hok.2)) hok.1 (ys:=ys) (fun i j oj hj hij hno=>?_) hQ hr (by simpa using h2)
   have:=h3 rfl i j oj (by simpa using hj) (by omega) hno
   simpa using this
def ZL (next:SL→Prop) (Q:Exit→SL→Prop):Exit→SL→Prop
 | .normal,l=>next l
 | e,l=>Q e l
theorem W1 {a b:Code} (h:WP P C a (ZL (fun l'=>WP P C b Q l') Q) l):WP P C (.seq a b) Q l:=by
 intro hok act w hr
 simp only [codeOk,Bool.and_eq_true] at hok
 refine wp_seq (wp_mono (h hok.1 act w hr) ?_)
 rintro e a' w' ⟨l',hr',hq⟩
 cases e
 case normal=>exact hq hok.2 a' w' hr'
 all_goals exact ⟨l',hr',hq⟩
theorem W7 {x:Operand} {a b:Code} (h:opK l x fun v=>LX v fun t=>yK t (WP P C a Q l) (WP P C b Q l)) (hx:okO x=true):WP P C (.cond x a b) Q l:=by
 intro hok act w hr
 simp only [codeOk,Bool.and_eq_true] at hok
 rw [MO] at h
 obtain ⟨t,ht,h12⟩:=qP h
 obtain ⟨β,ok,hr0⟩:=hr
 have hv:=hr0.eval x hx
 rw [ht] at hv
 have hv':=hv.jo
 have he:act.eval x = .bool t:=by
  generalize act.eval x=v at hv'
  cases hv';rfl
 rcases pq h12 with ⟨rfl,h1⟩ | ⟨rfl,h2⟩
 ·exact wp_cond_true he (h1 hok.1 act w ⟨β,ok,hr0⟩)
 ·exact wp_cond_false he (h2 hok.2 act w ⟨β,ok,hr0⟩)
def II (id:Nat) (Q:Exit→SL→Prop):Exit→SL→Prop
 | .exit id',l=>match Nat.beq id' id with | true=>Q .normal l | false=>Q (.exit id') l
 | e,l=>Q e l
theorem W3 {id:Nat} {c:Code} (h:WP P C c (II id Q) l):WP P C (.block id c) Q l:=by
 intro hok act w hr
 refine wp_block (wp_mono (h hok act w hr) ?_)
 rintro e a' w' ⟨l',hr',hq⟩
 cases e
 case exit id'=>
  show if id'=id then _ else _
  unfold II at hq
  simp only at hq
  cases hb:Nat.beq id' id with
  | true=>
    rw [hb] at hq
    rw [if_pos (Nat.eq_of_beq_eq_true hb)]
    exact ⟨l',hr',hq⟩
  | false=>
    rw [hb] at hq
    rw [if_neg (fun e=>by rw [e,Nat.beq_refl] at hb;cases hb)]
    exact ⟨l',hr',hq⟩
 all_goals exact ⟨l',hr',hq⟩
theorem W4 (h:Q .ret l):WP P C .ret Q l:=fun _ _ _ hr=>wp_ret ⟨l,hr,h⟩
theorem W5 (h:Q .normal l):WP P C .skip Q l:=fun _ _ _ hr=>wp_skip ⟨l,hr,h⟩
theorem W6 {id:Nat} (h:Q (.exit id) l):WP P C (.exit id) Q l:=fun _ _ _ hr=>wp_exit ⟨l,hr,h⟩
end
end Go.Abs
namespace Go.Abs
open Go Go.RowKit
abbrev Ren:=List (Nat×Option Nat)
def ou:Ren→Nat→(Option Nat→Prop)→Prop
 | [],_,_=>False
 | (i',o)::m,i,K=>match Nat.beq i' i with | true=>K o | false=>ou m i K
def iM:Ren→Nat→Option (Option Nat)
 | [],_=>none
 | (i',o)::m,i=>match Nat.beq i' i with | true=>some o | false=>iM m i
theorem jQ {i:Nat} {K:Option Nat→Prop}:∀ {m:Ren},ou m i K→∃ o,iM m i=some o∧K o
 | [],h=>h.elim
 | (i',o)::m,h=>by
   unfold ou at h
   unfold iM
   cases hb:Nat.beq i' i with
   | true=>rw [hb] at h;exact ⟨o,rfl,h⟩
   | false=>rw [hb] at h;exact jQ h
def oldId (o:Option Nat) (id:Nat) (p:Prop):Prop:=match o with | some id'=>bV (Nat.beq id' id) p | none=>False
def vW1 (h:Key→Option Res) (m:Ren) (fz:List Nat) (v v':V) (p:Prop):Prop:=
 match v' with
 | .any=>p
 | .d y=>match v with
   | .d x=>x=y∧p
   | .aj=>D.list []=y∧p
   | .emp=>D.list []=y∧p
   | .sl id sz off len=>bV (inB id fz) (mQ (h (id,0)) fun sz2 xs=>bV (Nat.beq sz sz2) (∃ ys,(xs.drop off).take len=ys∧off+len≤xs.length∧D.list ys=y∧p))
   | _=>False
 | .aj=>match v with | .aj=>p | _=>False
 | .emp=>match v with | .aj=>p | .emp=>p | _=>False
 | .ptr id' off'=>match v with
   | .ptr id off=>ou m id' fun o=>oldId o id (off=off'∧p)
   | _=>False
 | .sl id' sz' off' len'=>match v with
   | .sl id sz off len=>ou m id' fun o=>oldId o id ((sz=sz'∧off=off'∧len=len')∧p)
   | .aj=>ou m id' fun o=>match o with | none=>(off'=0∧len'=0)∧p | some _=>False
   | _=>False
 | .ael id' sz' i' off'=>match v with
   | .ael id sz i off=>ou m id' fun o=>oldId o id ((sz=sz'∧i=i'∧off=off')∧p)
   | _=>False
 | .map id'=>match v with
   | .map id=>ou m id' fun o=>oldId o id p
   | _=>False
 | _=>False
def vWs (h:Key→Option Res) (m:Ren) (fz:List Nat):List V→List V→Prop→Prop
 | [],[],p=>p
 | v::vs,v'::vs',p=>vW1 h m fz v v' (vWs h m fz vs vs' p)
 | _,_,_=>False
def vW (h:Key→Option Res) (m:Ren) (fz:List Nat) (v v':V) (p:Prop):Prop:=
 match v' with
 | .agg cs'=>match v with
   | .agg cs=>vWs h m fz cs cs' p
   | _=>False
 | .tuple cs'=>match v with
   | .tuple cs=>vWs h m fz cs cs' p
   | _=>False
 | .func fn' f' c'=>match v with
   | .func fn f c=>fn=fn'∧vWs h m fz f f' (vWs h m fz c c' p)
   | _=>False
 | v'=>vW1 h m fz v v' p
def aec (h:Key→Option Res) (m:Ren) (fz:List Nat) (k':Key) (r':Option Res) (p:Prop):Prop:=
 ou m k'.1 fun o=>match o with
  | none=>match r' with
    | some (.arr sz [])=>k'.2=0∧0<sz∧p
    | _=>False
  | some id=>match r' with
    | some (.cell v')=>uf (h (id,k'.2)) fun v=>vW1 h m fz v v' p
    | some (.arr sz' xs')=>mQ (h (id,k'.2)) fun sz xs=>(sz=sz'∧xs=xs')∧p
    | some (.map es')=>match h (id,k'.2) with
      | some (.map es)=>es=es'∧p
      | _=>False
    | some (.rows _ _ _)=>False
    | none=>False
def X7 (l:SL) (m:Ren) (fz:List Nat):List (Nat×V)→Prop→Prop
 | [],p=>p
 | (t,v')::env,p=>qF l.env t fun v=>vW (iE l.hp) m fz v v' (X7 l m fz env p)
def hpW (l:SL) (m:Ren) (fz:List Nat):List (Key×Option Res)→Prop→Prop
 | [],p=>p
 | (k',r')::hp,p=>aec (iE l.hp) m fz k' r' (hpW l m fz hp p)
def wM (fz:List Nat):Ren→Bool
 | []=>true
 | (_,none)::m=>wM fz m
 | (_,some i)::m=>!inB i fz&&m.all (fun e=>match e.2 with | some j=>!Nat.beq i j | none=>true)&&wM fz m
def X0 (h:Key→Option Res):List Nat→Prop→Prop
 | [],p=>p
 | i::is,p=>mQ (h (i,0)) fun _ _=>X0 h is p
def NR (m:Ren):List Nat→Prop→Prop
 | [],p=>p
 | i::is,p=>ou m i fun o=>oldId o i (NR m is p)
theorem zH {m:Ren}:∀ {is:List Nat} {p:Prop},NR m is p→(∀ i∈is,iM m i=some (some i))∧p
 | [],p,h=>⟨by simp,h⟩
 | i::is,p,h=>by
   unfold NR at h
   obtain ⟨o,h1,h2⟩:=jQ h
   unfold oldId at h2
   split at h2
   ·obtain ⟨h3,h4⟩:=aH h2
    obtain ⟨h5,h6⟩:=zH h4
    refine ⟨fun j hj=>?_,h6⟩
    rcases List.mem_cons.1 hj with rfl | hj
    ·rw [h1,Nat.eq_of_beq_eq_true h3]
    ·exact h5 j hj
   ·exact h2.elim
def yE (U:List Nat) (m:Ren) (fz:List Nat) (l l':SL):Prop:=
 NR m U <| bV (wM fz m) (X0 (iE l.hp) fz (l'.used=m.map (·.1)∧X7 l m fz l'.env (hpW l m fz l'.hp True)))
theorem IJ {i:Nat}:∀ {l:List Nat},inB i l=true→i∈l
 | [],h=>by cases h
 | x::xs,h=>by
   unfold inB at h
   split at h
   ·rename_i hx;rw [Nat.eq_of_beq_eq_true hx];exact List.mem_cons_self
   ·exact List.mem_cons_of_mem _ (IJ h)
theorem bP {i:Nat} {o:Option Nat}:∀ {m:Ren},iM m i=some o→(i,o)∈m
 | [],h=>by cases h
 | (i',o')::m,h=>by
   unfold iM at h
   cases hb:Nat.beq i' i with
   | true=>rw [hb] at h;simp at h;rw [Nat.eq_of_beq_eq_true hb,h];exact List.mem_cons_self
   | false=>rw [hb] at h;exact List.mem_cons_of_mem _ (bP h)
theorem pz {fz:List Nat}:∀ {m:Ren},wM fz m=true→∀ i j k,(i,some k)∈m→(j,some k)∈m→iM m i=some (some k)→iM m j=some (some k)→i=j
 | [],_,i,j,k,hi,_,_,_=>by cases hi
 | (a,none)::m,h,i,j,k,hi,hj,fi,fj=>by
   have h':wM fz m=true:=h
   have ci:Nat.beq a i=false:=by
    unfold iM at fi
    cases hb:Nat.beq a i with
    | true=>rw [hb] at fi;cases fi
    | false=>rfl
   have cj:Nat.beq a j=false:=by
    unfold iM at fj
    cases hb:Nat.beq a j with
    | true=>rw [hb] at fj;cases fj
    | false=>rfl
   unfold iM at fi fj
   rw [ci] at fi
   rw [cj] at fj
   exact pz h' i j k (bP fi) (bP fj) fi fj
 | (a,some b)::m,h,i,j,k,hi,hj,fi,fj=>by
   unfold wM at h
   simp only [Bool.and_eq_true] at h
   obtain ⟨⟨h1,h2⟩,h3⟩:=h
   have hno:∀ x,(x,some b)∉m:=fun x hx=>by
    have:=List.all_eq_true.1 h2 _ hx
    simp [Nat.beq_refl] at this
   unfold iM at fi fj
   cases ci:Nat.beq a i with
   | true=>
     rw [ci] at fi
     simp at fi
     subst fi
     cases cj:Nat.beq a j with
     | true=>rw [← Nat.eq_of_beq_eq_true ci,← Nat.eq_of_beq_eq_true cj]
     | false=>rw [cj] at fj;exact absurd (bP fj) (hno j)
   | false=>
     rw [ci] at fi
     cases cj:Nat.beq a j with
     | true=>
       rw [cj] at fj
       simp at fj
       subst fj
       exact absurd (bP fi) (hno i)
     | false=>
       rw [cj] at fj
       exact pz h3 i j k (bP fi) (bP fj) fi fj
theorem yT {fz:List Nat}:∀ {m:Ren},wM fz m=true→∀ i k,(i,some k)∈m→k∉fz
 | [],_,i,k,hi=>by cases hi
 | (a,none)::m,h,i,k,hi=>by
   rcases List.mem_cons.1 hi with e | hi
   ·cases e
   ·exact yT (m:=m) h i k hi
 | (a,some b)::m,h,i,k,hi=>by
   unfold wM at h
   simp only [Bool.and_eq_true] at h
   rcases List.mem_cons.1 hi with e | hi
   ·cases e
    have:=h.1.1
    exact vI (by simpa using this)
   ·exact yT (m:=m) h.2 i k hi
theorem Dq {h:Key→Option Res}:∀ {fz:List Nat} {p:Prop},X0 h fz p→(∀ i∈fz,∃ sz xs,h (i,0)=some (.arr sz xs))∧p
 | [],p,hp=>⟨by simp,hp⟩
 | i::fz,p,hp=>by
   unfold X0 at hp
   obtain ⟨sz,xs,h1,h2⟩:=fH hp
   obtain ⟨h3,h4⟩:=Dq h2
   exact ⟨fun j hj=>by
    rcases List.mem_cons.1 hj with rfl | hj
    ·exact ⟨sz,xs,h1⟩
    ·exact h3 j hj,h4⟩
section
variable {C:Ctx} {β:Nat→Value} {ok:Nat→Prop} {l:SL} {a:Act} {w:World} {m:Ren} {fz:List Nat}
def lQ (β:Nat→Value) (m:Ren) (i:Nat):Value:=match iM m i with | some (some k)=>β k | _ => .slice none 0 0
def okZ (β:Nat→Value) (ok:Nat→Prop) (fz:List Nat) (b:Nat):Prop:=ok b∨∃ i∈fz,aU (β i)=some b
theorem uM (h:RelB C β ok l.toS a w) {v v':V} {p:Prop} (hw:vW1 (iE l.hp) m fz v v' p) :
  p∧∀ val,RdV β l.toS.used ok w val v→RdV (lQ β m) (fun i=>i∈m.map (·.1)) (okZ β ok fz) w val v':=by
 have hokz:∀ b,ok b→okZ β ok fz b:=fun b hb => .inl hb
 have look:∀ {i id:Nat} {q:Prop},(ou m i fun o=>oldId o id q)→(i∈m.map (·.1)∧lQ β m i=β id)∧q:=fun {i id q} h=>by
  obtain ⟨o,h1,h2⟩:=jQ h
  unfold oldId at h2
  split at h2
  ·obtain ⟨h3,h4⟩:=aH h2
   refine ⟨⟨List.mem_map.2 ⟨_,bP h1,rfl⟩,?_⟩,h4⟩
   unfold lQ;rw [h1,← Nat.eq_of_beq_eq_true h3]
  ·exact h2.elim
 unfold vW1 at hw
 split at hw
 ·exact ⟨hw,fun val _ => .any _⟩
 ·split at hw
  ·obtain ⟨rfl,hp⟩:=hw
   exact ⟨hp,fun val hv => .d _ _ (hv.jo.mono (fun _ _=>rfl) hokz)⟩
  ·obtain ⟨rfl,hp⟩:=hw
   exact ⟨hp,fun val hv=>by cases hv;exact .d _ _ (.lV _)⟩
  ·obtain ⟨rfl,hp⟩:=hw
   exact ⟨hp,fun val hv=>by cases hv;exact .d _ _ (.lV _)⟩
  ·rename_i id sz off len
   obtain ⟨hf,hw⟩:=aH hw
   obtain ⟨sz2,xs,hh,hw⟩:=fH hw
   obtain ⟨hs,ys,rfl,hl,rfl,hp⟩:=aH hw
   have e:sz=sz2:=Nat.eq_of_beq_eq_true hs
   subst e
   exact ⟨hp,fun val hv => .d _ _ (RdD.En hv (h.heap _ _ hh).2.2 hl (fun b hb => .inr ⟨id,IJ hf,hb⟩) hokz)⟩
  ·exact hw.elim
 ·split at hw
  ·exact ⟨hw,fun val hv=>by cases hv;exact .aj⟩
  ·exact hw.elim
 ·split at hw
  ·exact ⟨hw,fun val hv=>by cases hv;exact .emp _⟩
  ·exact ⟨hw,fun val hv=>by cases hv;exact .emp _⟩
  ·exact hw.elim
 ·split at hw
  ·obtain ⟨⟨h1,h2⟩,rfl,hp⟩:=look hw
   exact ⟨hp,fun val hv=>by
    cases hv with
    | ptr _ _ b q1 q2=>exact .ptr _ _ b h1 (h2.trans q2)⟩
  ·exact hw.elim
 ·split at hw
  ·obtain ⟨⟨h1,h2⟩,⟨rfl,rfl,rfl⟩,hp⟩:=look hw
   exact ⟨hp,fun val hv=>by
    cases hv with
    | sl _ _ _ _ n cap a0 a1 q1 q2 q3 q4 q5=>exact .sl _ _ _ _ n cap a0 a1 h1 (h2.trans q2) q3 q4 q5⟩
  ·obtain ⟨o,h1,h2⟩:=jQ hw
   split at h2
   ·obtain ⟨⟨rfl,rfl⟩,hp⟩:=h2
    refine ⟨hp,fun val hv=>?_⟩
    cases hv
    exact RdV.sl _ _ 0 0 0 0 none none (List.mem_map.2 ⟨_,bP h1,rfl⟩) (by unfold lQ;rw [h1]) (by omega) (by simp) (fun hc=>by omega)
   ·exact h2.elim
  ·exact hw.elim
 ·split at hw
  ·obtain ⟨⟨h1,h2⟩,⟨rfl,rfl,rfl⟩,hp⟩:=look hw
   exact ⟨hp,fun val hv=>by
    cases hv with
    | ael _ _ _ _ b o n cap q1 q2=>exact .ael _ _ _ _ b o n cap h1 (h2.trans q2)⟩
  ·exact hw.elim
 ·split at hw
  ·obtain ⟨⟨h1,h2⟩,hp⟩:=look hw
   exact ⟨hp,fun val hv=>by
    cases hv with
    | map _ r q1 q2=>exact .map _ r h1 (h2.trans q2)⟩
  ·exact hw.elim
 ·exact hw.elim
theorem lH (h:RelB C β ok l.toS a w):∀ {vs vs':List V} {p:Prop},vWs (iE l.hp) m fz vs vs' p →
  p∧vs.length=vs'.length∧∀ (i:Nat) val v v',vs[i]?=some v→vs'[i]?=some v'→RdV β l.toS.used ok w val v→RdV (lQ β m) (fun i=>i∈m.map (·.1)) (okZ β ok fz) w val v'
 | [],[],p,hw=>⟨hw,rfl,fun i val v v' hv=>by simp at hv⟩
 | v::vs,v'::vs',p,hw=>by
   unfold vWs at hw
   obtain ⟨h1,h2⟩:=uM h hw
   obtain ⟨h3,h4,h5⟩:=lH h h1
   refine ⟨h3,by simp [h4],fun i val u u' hu hu' hr=>?_⟩
   cases i with
   | zero=>simp at hu hu';subst hu;subst hu';exact h2 val hr
   | succ i=>exact h5 i val u u' (by simpa using hu) (by simpa using hu') hr
 | [],_::_,p,hw=>by unfold vWs at hw;exact hw.elim
 | _::_,[],p,hw=>by unfold vWs at hw;exact hw.elim
theorem Q8 (h:RelB C β ok l.toS a w) {v v':V} {p:Prop} (hw:vW (iE l.hp) m fz v v' p) :
  p∧∀ val,RdV β l.toS.used ok w val v→RdV (lQ β m) (fun i=>i∈m.map (·.1)) (okZ β ok fz) w val v':=by
 have pick:∀ (us:Array Value) (cs cs':List V),us.size=cs.length→cs.length=cs'.length→(∀ (i:Nat) v c,us[i]?=some v→cs[i]?=some c→RdV β l.toS.used ok w v c) →
   (∀ (i:Nat) val v v',cs[i]?=some v→cs'[i]?=some v'→RdV β l.toS.used ok w val v→RdV (lQ β m) (fun i=>i∈m.map (·.1)) (okZ β ok fz) w val v') →
   ∀ (i:Nat) v c,us[i]?=some v→cs'[i]?=some c→RdV (lQ β m) (fun i=>i∈m.map (·.1)) (okZ β ok fz) w v c:=fun us cs cs' e1 e2 hr hs i v c hv hc=>by
  have hi:i<cs.length:=by rw [← e1];exact (Array.getElem?_eq_some_iff.1 hv).1
  have hcs:cs[i]?=some cs[i]:=by simp
  exact hs i v _ c hcs hc (hr i v _ hv hcs)
 unfold vW at hw
 split at hw
 ·split at hw
  ·obtain ⟨h1,h2,h3⟩:=lH h hw
   refine ⟨h1,fun val hv=>?_⟩
   cases hv with
   | agg us _ q1 q2 q3=>exact .agg us _ (q1.trans h2) (pick us _ _ q1 h2 q2 h3) q3
  ·exact hw.elim
 ·split at hw
  ·obtain ⟨h1,h2,h3⟩:=lH h hw
   refine ⟨h1,fun val hv=>?_⟩
   cases hv with
   | tuple us _ q1 q2=>exact .tuple us _ (q1.trans h2) (pick us _ _ q1 h2 q2 h3)
  ·exact hw.elim
 ·split at hw
  ·obtain ⟨rfl,hw⟩:=hw
   obtain ⟨h1,h2,h3⟩:=lH h hw
   obtain ⟨g1,g2,g3⟩:=lH h h1
   refine ⟨g1,fun val hv=>?_⟩
   cases hv with
   | func _ fs cs _ _ q1 q2 q3 q4=>exact .func _ fs cs _ _ (q1.trans h2) (q2.trans g2) (pick fs _ _ q1 h2 q3 h3) (pick cs _ _ q2 g2 q4 g3)
  ·exact hw.elim
 ·exact uM h hw
theorem Aj (h:RelB C β ok l.toS a w):∀ {env:List (Nat×V)} {p:Prop},X7 l m fz env p→p∧∀ t,RdV (lQ β m) (fun i=>i∈m.map (·.1)) (okZ β ok fz) w (a.tmps.getD t undef) (iI env t)
 | [],p,hw=>⟨hw,fun t => .any _⟩
 | (t0,v')::env,p,hw=>by
   unfold X7 at hw
   rw [iC] at hw
   obtain ⟨h1,h2⟩:=Q8 h hw
   obtain ⟨h3,h4⟩:=Aj h h1
   refine ⟨h3,fun t=>?_⟩
   unfold iI
   cases hb:Nat.beq t0 t with
   | true=>rw [← Nat.eq_of_beq_eq_true hb];exact h2 _ (h.env t0)
   | false=>exact h4 t
def Kv (r:Res):Prop:=∀ sz rs out,r ≠ .rows sz rs out
theorem Blk.Kr {β:Nat→Value} {w:World} {k:Key} {r:Res} {b:Nat} (hn:Kv r) (h:Blk β w k r b):aU (β k.1)=some b:=by
 rcases h with h | h
 ·exact h
 ·cases r with
  | rows sz rs out=>exact absurd rfl (hn sz rs out)
  | cell _=>exact h.elim
  | arr _ _=>exact h.elim
  | map _=>exact h.elim
theorem JL (h:RelB C β ok l.toS a w) {k':Key} {r':Option Res} {p:Prop} (hw:aec (iE l.hp) m fz k' r' p) :
  p∧k'.1∈m.map (·.1)∧∃ r,r'=some r∧Kv r∧Own (lQ β m) (fun i=>i∈m.map (·.1)) (okZ β ok fz) w k' r ∧
   ((iM m k'.1=some none∧aU (lQ β m k'.1)=none)∨∃ id r0,iM m k'.1=some (some id)∧iE l.hp (id,k'.2)=some r0∧(∀ v,r = .cell v↔∃ v0,r0 = .cell v0∧r = .cell v)):=by
 have hokz:∀ b,ok b→okZ β ok fz b:=fun b hb => .inl hb
 unfold aec at hw
 obtain ⟨o,h1,h2⟩:=jQ hw
 have hmem:k'.1∈m.map (·.1):=List.mem_map.2 ⟨_,bP h1,rfl⟩
 split at h2
 ·split at h2
  ·obtain ⟨h3,h4,h5⟩:=h2
   have hβ:lQ β m k'.1 = .slice none 0 0:=by unfold lQ;rw [h1]
   exact ⟨h5,hmem,_,rfl,fun _ _ _ e=>(by cases e),⟨h3,none,0,hβ,by simp,by simp [maxLen],h4,by simp,fun hc=>by omega⟩,.inl ⟨h1,by rw [hβ];rfl⟩⟩
  ·exact h2.elim
 ·rename_i id
  have hβ:lQ β m k'.1=β id:=by unfold lQ;rw [h1]
  split at h2
  ·obtain ⟨v,h3,h4⟩:=mP h2
   obtain ⟨h5,h6⟩:=uM h h4
   obtain ⟨_,b,c,T,v0,e1,e2,e3,e4,e5⟩:=h.heap _ _ h3
   exact ⟨h5,hmem,_,rfl,fun _ _ _ e=>(by cases e),⟨b,c,T,v0,hβ.trans e1,e2,e3,e4,h6 v0 e5⟩,.inr ⟨id,_,h1,h3,fun v1=>⟨fun e=>⟨v,rfl,e⟩,fun ⟨_,_,e⟩=>e⟩⟩⟩
  ·obtain ⟨sz,xs,h3,⟨rfl,rfl⟩,h4⟩:=fH h2
   obtain ⟨_,hk0,a0,cap,e1,e2,e3,e4,e5,e6⟩:=h.heap _ _ h3
   refine ⟨h4,hmem,_,rfl,fun _ _ _ e=>(by cases e),⟨hk0,a0,cap,hβ.trans e1,e2,e3,e4,e5,fun hc=>?_⟩,.inr ⟨id,_,h1,h3,fun v1=>⟨(fun e=>by cases e),(fun ⟨_,e,_⟩=>by cases e)⟩⟩⟩
   obtain ⟨b,o,cur,T,f1,f2,f3,f4⟩:=e6 hc
   refine ⟨b,o,cur,T,f1,f2,f3,fun i x j c hx hc'=>?_⟩
   obtain ⟨u0,g1,g2,g3⟩:=f4 i x j c hx hc'
   exact ⟨u0,g1,g2.mono (fun _ _=>rfl) hokz,g3⟩
  ·split at h2
   ·rename_i es h3
    obtain ⟨rfl,h4⟩:=h2
    obtain ⟨_,hk0,r,ents,clock,e1,e2,e3,e4⟩:=h.heap _ _ h3
    exact ⟨h4,hmem,_,rfl,fun _ _ _ e=>(by cases e),⟨hk0,r,ents,clock,hβ.trans e1,e2,e3,fun i mm e hm he=>⟨(e4 i mm e hm he).1.mono (fun _ _=>rfl) hokz,(e4 i mm e hm he).2.mono (fun _ _=>rfl) hokz⟩⟩,
     .inr ⟨id,_,h1,h3,fun v1=>⟨(fun e=>by cases e),(fun ⟨_,e,_⟩=>by cases e)⟩⟩⟩
   ·exact h2.elim
  ·exact h2.elim
  ·exact h2.elim
theorem Dc (h:RelB C β ok l.toS a w):∀ {hp:List (Key×Option Res)} {p:Prop},hpW l m fz hp p→p∧∀ k r,iE hp k=some r→k.1∈m.map (·.1)∧Kv r∧Own (lQ β m) (fun i=>i∈m.map (·.1)) (okZ β ok fz) w k r ∧
   ((iM m k.1=some none∧aU (lQ β m k.1)=none)∨∃ id r0,iM m k.1=some (some id)∧iE l.hp (id,k.2)=some r0∧(∀ v,r = .cell v↔∃ v0,r0 = .cell v0∧r = .cell v))
 | [],p,hw=>⟨hw,fun k r hr=>by cases hr⟩
 | (k0,r0)::hp,p,hw=>by
   unfold hpW at hw
   obtain ⟨h1,h2,r,h3,hnr,h4,h5⟩:=JL h hw
   obtain ⟨h6,h7⟩:=Dc h h1
   refine ⟨h6,fun k r' hr=>?_⟩
   unfold iE at hr
   cases hb:ET k0 k with
   | true=>
     rw [hb] at hr
     have e:=lW.1 hb
     subst e
     simp only at hr
     rw [h3] at hr
     cases hr
     exact ⟨h2,hnr,h4,h5⟩
   | false=>rw [hb] at hr;exact h7 k r' hr
theorem RelB.weak {l l':SL} (h:RelB C β ok l.toS a w) (hw:yE C.u0 m fz l l'):RelB C (lQ β m) (okZ β ok fz) l'.toS a w:=by
 obtain ⟨h0,hw⟩:=zH hw
 obtain ⟨h1,hw⟩:=aH hw
 obtain ⟨h2,hu,hw⟩:=Dq hw
 obtain ⟨hw,h3⟩:=Aj h hw
 obtain ⟨_,h4⟩:=Dc h hw
 have hused:l'.toS.used=fun i=>i∈m.map (·.1):=by funext i;show (i∈l'.used)=_;rw [hu]
 have hren:∀ {i id:Nat},iM m i=some (some id)→lQ β m i=β id:=fun h=>by unfold lQ;rw [h]
 refine ⟨h.defers,h.iL,fun t=>?_,fun k r hr=>?_,fun k r b hr hb=>?_,fun k k' r r' b hr hr' hb hb'=>?_,fun b hb=>?_,fun b hb => .inl (h.ok0 b hb),fun b hb=>?_,h.frame,fun i hi=>?_⟩
 ·rw [hused];exact h3 t
 ·rw [hused];exact ⟨(h4 k r hr).1,(h4 k r hr).2.2.1⟩
 ·obtain ⟨_,hnr,_,⟨_,hn⟩ | ⟨id,r0,g1,g2,g3⟩⟩:=h4 k r hr
  all_goals replace hb:=Blk.Kr hnr hb
  ·rw [hn] at hb;cases hb
  ·rw [hren g1] at hb
   obtain ⟨s1,s2,s3⟩:=h.sep (id,k.2) r0 b g2 (.inl hb)
   refine ⟨fun hc=>?_,s2,fun hlt=>?_⟩
   ·rcases hc with hc | ⟨i,hi,hc⟩
    ·exact s1 hc
    ·obtain ⟨sz,xs,hi2⟩:=h2 i hi
     have:=h.inj (id,k.2) (i,0) r0 _ b g2 hi2 (.inl hb) (.inl hc)
     simp only at this
     subst this
     exact yT h1 k.1 id (bP g1) hi
   ·have:=s3 hlt
    cases r with
    | cell v=>
      obtain ⟨v0,e,_⟩:=(g3 v).1 rfl
      subst e
      have hid:k.1=id:=pz h1 k.1 id id (bP g1) (bP (h0 id this.1)) g1 (h0 id this.1)
      exact ⟨by rw [hid];exact this.1,this.2⟩
    | arr sz xs=>
      cases r0 with
      | cell v0=>exact absurd rfl (fun (_:True=True)=>by
        obtain ⟨hh,ho⟩:=h.heap _ _ g2
        obtain ⟨_,b1,c1,T1,v1,e1,_⟩:=(⟨hh,ho⟩:l.toS.used (id,k.2).1∧Own β l.toS.used ok w (id,k.2) (.cell v0))
        have hown:=(h4 k _ hr).2.2.1
        obtain ⟨_,a0,cap,f1,_⟩:=hown
        rw [hren g1] at f1
        simp only at e1
        rw [e1] at f1
        cases f1)
      | arr _ _=>exact this
      | map _=>exact this
      | rows _ _ _=>exact this
    | rows _ _ _=>exact absurd rfl (hnr _ _ _)
    | map es=>
      cases r0 with
      | cell v0=>exact absurd rfl (fun (_:True=True)=>by
        obtain ⟨_,b1,c1,T1,v1,e1,_⟩:=h.heap _ _ g2
        have hown:=(h4 k _ hr).2.2.1
        obtain ⟨_,rr,ents,clock,f1,_⟩:=hown
        rw [hren g1] at f1
        simp only at e1
        rw [e1] at f1
        cases f1)
      | arr _ _=>exact this
      | map _=>exact this
      | rows _ _ _=>exact this
 ·obtain ⟨_,hnr,_,⟨_,hn⟩ | ⟨id,r0,g1,g2,g3⟩⟩:=h4 k r hr
  all_goals replace hb:=Blk.Kr hnr hb
  ·rw [hn] at hb;cases hb
  ·obtain ⟨_,hnr',_,⟨_,hn'⟩ | ⟨id',r0',g1',g2',g3'⟩⟩:=h4 k' r' hr'
   all_goals replace hb':=Blk.Kr hnr' hb'
   ·rw [hn'] at hb';cases hb'
   ·rw [hren g1] at hb
    rw [hren g1'] at hb'
    have:=h.inj (id,k.2) (id',k'.2) r0 r0' b g2 g2' (.inl hb) (.inl hb')
    simp only at this
    subst this
    exact pz h1 k.1 k'.1 id (bP g1) (bP g1') g1 g1'
 ·rcases hb with hb | ⟨i,hi,hb⟩
  ·exact h.okb b hb
  ·obtain ⟨sz,xs,hi2⟩:=h2 i hi
   exact (h.sep (i,0) _ b hi2 (.inl hb)).2.1
 ·rcases hb with hb | ⟨i,hi,hb⟩
  ·exact h.okn b hb
  ·obtain ⟨sz,xs,hi2⟩:=h2 i hi
   have:=(h.sep (i,0) _ b hi2 (.inl hb)).2.2
   rcases Nat.lt_or_ge b C.w0.heap.size with hlt | hge
   ·exact .inr (.inr (this hlt))
   ·exact .inr (.inl hge)
 ·have:=h0 i hi
  exact ⟨by rw [hused];exact List.mem_map.2 ⟨_,bP this,rfl⟩,(hren this).trans (h.keep i hi).2⟩
theorem Rel.weak {l l':SL} (h:Rel C l.toS a w) (hw:yE C.u0 m fz l l'):Rel C l'.toS a w:=by
 obtain ⟨β,ok,h⟩:=h
 exact ⟨_,_,h.weak hw⟩
end
section
variable {P:Program} {T:Nat→TE} {C:Ctx} {Q:Exit→SL→Prop} {l:SL}
theorem WP.loop {α:Type} (st:α→SL) (I:α→Prop) (μ:α→Nat) {c:Code} (x0:α) (m0:Ren) (fz0:List Nat) (hw:yE C.u0 m0 fz0 l (st x0)) (h0:I x0)
  (round:∀ x,I x→WP P C c (ZL (fun l'=>∃ y m fz,yE C.u0 m fz l' (st y)∧I y∧μ y<μ x) Q) (st x)):WP P C (.loop c) Q l:=by
 intro hok act w hr
 have hr0:=hr.weak hw
 intro b k cs
 have key:∀ n x,μ x=n→I x→∀ act w,Rel C (st x).toS act w →
   ∃ e a' w',(∃ l',Rel C l'.toS a' w'∧Q e l')∧Arrives P (lone (b.at act (.code c :: .inLoop c::k)) cs w) b k cs e a' w':=by
  intro n
  induction n using Nat.strongRecOn with
  | _ n ih=>
    intro x hn hI act w hr
    obtain ⟨e,a₁,w₁,⟨l',hr',hq⟩,harr⟩:=round x hI hok act w hr b (.inLoop c::k) cs
    cases e with
    | normal=>
      obtain ⟨y,m,fz,hw',hI',hlt⟩:=hq
      obtain ⟨e₂,a₂,w₂,hq₂,harr₂⟩:=ih (μ y) (hn ▸ hlt) y rfl hI' a₁ w₁ (hr'.weak hw')
      exact ⟨e₂,a₂,w₂,hq₂,.of_steps (Steps.trans harr (.one step_inLoop)) harr₂⟩
    | exit id=>exact ⟨_,a₁,w₁,⟨l',hr',hq⟩,.pass (x := .inLoop c) rfl (fun _ _ => .inl (by simp)) harr⟩
    | goto l=>exact ⟨_,a₁,w₁,⟨l',hr',hq⟩,.pass (x := .inLoop c) rfl (fun _ _ => .inl (by simp)) harr⟩
    | ret=>exact ⟨_,a₁,w₁,⟨l',hr',hq⟩,.pass (x := .inLoop c) rfl (fun _ _ => .inl (by simp)) harr⟩
    | panic ch=>exact ⟨_,a₁,w₁,⟨l',hr',hq⟩,.pass (x := .inLoop c) rfl (fun _ _ => .inl (by simp)) harr⟩
    | outgrown=>exact ⟨_,a₁,w₁,⟨l',hr',hq⟩,.pass (x := .inLoop c) rfl (fun _ _ => .inl (by simp)) harr⟩
 obtain ⟨e,a',w',hq,harr⟩:=key _ x0 rfl h0 act w hr0
 exact ⟨e,a',w',hq,.of_steps (.one step_loop) harr⟩
def kE (T:Nat→TE) (l:SL):List ResultVar→(List D→Prop)→Prop
 | [],K=>K []
 | .tmp t::rs,K=>qF l.env t fun v=>WB v (iE l.hp) fun d _=>kE T l rs fun ds=>K (d::ds)
 | .cell x t::rs,K=>qF l.env x fun v=>vP (T t) [v] (iE l.hp) fun y _ _ _=>WB y (iE l.hp) fun d _=>kE T l rs fun ds=>K (d::ds)
def ajH (T:Nat→TE) (rs:List ResultVar) (ds:List D):Exit→SL→Prop
 | .ret,l=>kE T l rs fun ds'=>ds'=ds
 | .normal,l=>kE T l rs fun ds'=>ds'=ds
 | _,_=>False
theorem wK {t:Nat} {vx v:Value} {w:World} (h:(Instr.loadAt t vx).run P w = .ok v w):(do loadVar t (← asAddr vx)).run P w = .ok v w:=by
 cases vx with
 | pointer a=>cases a with
   | none=>simp [Instr.loadAt,Instr.sureAddr] at h
   | some a=>simpa [Instr.loadAt,Instr.sureAddr,asAddr] using h
 | _=>simp [Instr.loadAt,Instr.sureAddr] at h
def qg (tmps:Array Value):ResultVar→Sem Value
 | .tmp t=>pure (tmps.getD t undef)
 | .cell a t=>do loadVar t (← asAddr (tmps.getD a undef))
theorem qV (fn:Func) (tmps:Array Value):results fn tmps=(do let vs ← fn.results.mapM (qg tmps);pure (if h:vs.size=1 then vs[0] else .tuple vs)):=by
 unfold results
 congr 1
theorem kX (hT:TOK P T) {β:Nat→Value} {ok:Nat→Prop} {a:Act} {w:World} (h:RelB C β ok l.toS a w) {ok':Nat→Prop} (hok:∀ b,ok b→ok' b) (hown:∀ k r b,iE l.hp k=some r→Blk β w k r b→ok' b) :
  ∀ {rs:List ResultVar} {K:List D→Prop},kE T l rs K→∃ ds,K ds∧ds.length=rs.length∧∃ vs:List Value,
    (rs.mapM (qg a.tmps)).run P w = .ok vs w∧vs.length=rs.length ∧
    ∀ (i:Nat) v d,vs[i]?=some v→ds[i]?=some d→RdD ok' w v d
 | [],K,hK=>⟨[],hK,rfl,[],by simp,rfl,fun i v d hv=>by simp at hv⟩
 | .tmp t::rs,K,hK=>by
   unfold kE at hK
   rw [iC] at hK
   obtain ⟨d,rd,h1,h2⟩:=wo hK
   obtain ⟨ds,h3,h4,vs,h5,h6,h7⟩:=kX hT h hok hown h1
   have hd:RdD ok' w (a.tmps.getD t undef) d:=h2 β l.toS.used ok ok' w _ (h.env t) (fun k hk r hr=>⟨(h.heap k r hr).2,fun b hb=>hown k r b hr hb⟩) hok
   refine ⟨d::ds,h3,by simp [h4],a.tmps.getD t undef::vs,?_,by simp [h6],fun i v d' hv hd'=>?_⟩
   ·rw [List.mapM_cons]
    simp only [qg,Sem.run_bind,Sem.run_pure,Result.andThen_ok,h5]
   ·cases i with
    | zero=>simp at hv hd';subst hd';rw [← hv];simpa using hd
    | succ i=>exact h7 i v d' (by simpa using hv) (by simpa using hd')
 | .cell x t::rs,K,hK=>by
   unfold kE at hK
   rw [iC] at hK
   obtain ⟨v0,y,rd,e0,hK1,hrun⟩:=rE hT hK
   simp only [List.cons.injEq,and_true] at e0
   obtain ⟨d,rd',h1,h2⟩:=wo hK1
   obtain ⟨ds,h3,h4,vs,h5,h6,h7⟩:=kX hT h hok hown h1
   obtain ⟨v,f1,f2⟩:=hrun β l.toS.used ok w (a.tmps.getD x undef) (by rw [← e0];exact h.env x) (fun k hk r hr=>(h.heap k r hr).2)
   have hd:RdD ok' w v d:=h2 β l.toS.used ok ok' w _ f2 (fun k hk r hr=>⟨(h.heap k r hr).2,fun b hb=>hown k r b hr hb⟩) hok
   refine ⟨d::ds,h3,by simp [h4],v::vs,?_,by simp [h6],fun i v' d' hv hd'=>?_⟩
   ·rw [List.mapM_cons]
    have:=wK f1
    simp only [qg,Sem.run_bind] at this ⊢
    rw [this]
    simp only [Result.andThen_ok,h5,Sem.run_pure]
   ·cases i with
    | zero=>simp at hv hd';subst hd';rw [← hv];exact hd
    | succ i=>exact h7 i v' d' (by simpa using hv) (by simpa using hd')
def Ak:Nat→List D→List (Nat×V)
 | _,[]=>[]
 | k,d::ds=>(k,.d d)::Ak (k+1) ds
theorem zY:∀ (ds:List D) (k t:Nat),iI (Ak k ds) t=if k≤t then (match ds[t-k]? with | some d => .d d | none => .any) else .any
 | [],k,t=>by simp [Ak,iI]
 | d::ds,k,t=>by
   unfold Ak iI
   cases h:Nat.beq k t with
   | true=>rw [← Nat.eq_of_beq_eq_true h];simp
   | false=>
     have hne:k≠t:=fun e=>by rw [e,Nat.beq_refl] at h;cases h
     simp only
     rw [zY ds (k+1) t]
     by_cases hkt:k≤t
     ·rw [if_pos (by omega),if_pos hkt,show t-k=(t-(k+1))+1 by omega]
      simp
     ·rw [if_neg (by omega),if_neg hkt]
theorem kF {fn:Func} {a:Act} {w:World} {vs:List Value} (h:(fn.results.toList.mapM (qg a.tmps)).run P w = .ok vs w) :
  (results fn a.tmps).run P w = .ok (match vs with | [v]=>v | vs => .tuple vs.toArray) w:=by
 rw [qV,Sem.run_bind]
 have:(fn.results.mapM (qg a.tmps)).run P w = .ok vs.toArray w:=by
  rw [Array.mapM_eq_mapM_toList]
  simp only [Sem.run_map,h,Result.andThen_ok]
 rw [this]
 simp only [Result.andThen_ok,Sem.run_pure]
 match vs with
 | []=>rfl
 | [v]=>rfl
 | v::u::r=>simp
theorem Pure.of_wp (hT:TOK P T) {f:FuncId} {fn:Func} {c:Code} {nt:Nat} {ds rs:List D} (hf:P.funcs[f]?=some fn) (hb:fn.body=some c) (hname:(fn.name == "runtime.NumGoroutine")=false) (hnt:fn.ntmps=nt) (hle:Nat.ble ds.length nt=true) (hok:codeOk nt c=true)
  (h:∀ w0 ok0 β0,WP P ⟨w0,ok0,fun _ _=>False,nt,β0,[]⟩ c (ajH T fn.results.toList rs) ⟨Ak 0 ds,[],[]⟩):Pure P f ds rs:=by
 refine ⟨⟨fn,hf,hname,by rw [hb];rfl⟩,fun ok w vs hokb hsz hrd=>calls_of_wp hf hb ?_⟩
 have hle':ds.length≤nt:=Nat.le_of_ble_eq_true hle
 let C:Ctx:=⟨w,ok,fun _ _=>False,nt,fun _=>undef,[]⟩
 have hrel:Rel C (SL.toS ⟨Ak 0 ds,[],[]⟩) { tmps:=vs++Array.replicate (fn.ntmps-vs.size) undef,defers:=[] } w:=by
  refine ⟨fun _=>undef,ok,rfl,?_,fun t=>?_,fun k r hr=>(by cases hr),fun k r b hr=>(by cases hr),fun k k' r r' b hr=>(by cases hr),hokb,fun b hb=>hb,fun b hb => .inl hb,Frame.refl _ _,fun i hi=>(by cases hi)⟩
  ·show (vs++Array.replicate (fn.ntmps-vs.size) undef).size=nt
   simp [hsz,hnt];omega
  ·show RdV _ _ _ _ _ (iI (Ak 0 ds) t)
   rw [zY]
   simp only [Nat.zero_le,if_true,Nat.sub_zero]
   cases hd:ds[t]? with
   | none=>exact .any _
   | some d=>
     have ht:t<vs.size:=by rw [hsz];exact (List.getElem?_eq_some_iff.1 hd).1
     have hv:vs[t]?=some vs[t]:=by simp [ht]
     have e:(vs++Array.replicate (fn.ntmps-vs.size) undef).getD t undef=vs[t]:=by
      simp [Array.getElem?_append_left ht,ht]
     rw [e]
     exact .d _ _ (hrd t _ d hv hd)
 refine wp_mono (h w ok (fun _=>undef) hok _ w hrel) ?_
 have fin:∀ (l':SL) (a':Act) (w':World),Rel C l'.toS a' w'→(kE T l' fn.results.toList fun ds'=>ds'=rs)→a'.defers=[]∧∃ v,(results fn a'.tmps).run P w' = .ok v w' ∧
   ∃ v',Ending.returned v = .returned v'∧Frame (fun _ _=>False) w w'∧xW (fun b=>ok b∨(w.heap.size≤b∧b<w'.heap.size)) w' v' rs:=fun l' a' w' ⟨β,ok',hr⟩ hq=>by
  obtain ⟨ds',h1,h2,vs',h3,h4,h5⟩:=kX hT hr (ok':=fun b=>ok b∨(w.heap.size≤b∧b<w'.heap.size)) (fun b hb=>by
   rcases hr.okn b hb with h' | h' | h'
   ·exact .inl h'
   ·exact .inr ⟨h',hr.okb b hb⟩
   ·exact (h' 0).elim) (fun k r b hr' hb'=>by
   obtain ⟨_,s2,s3⟩:=hr.sep k r b hr' hb'
   refine .inr ⟨?_,s2⟩
   rcases Nat.lt_or_ge b w.heap.size with hlt | hge
   ·have:=s3 hlt
    cases r with
    | cell _=>exact this.2.elim
    | arr _ _=>exact (this 0).elim
    | map _=>exact (this 0).elim
    | rows _ _ _=>exact (this 0).elim
   ·exact hge) hq
  subst h1
  refine ⟨hr.defers,_,kF h3,_,rfl,hr.frame,?_⟩
  match ds',vs',h2,h4,h5 with
  | [],[],_,_,h5=>exact ⟨#[],rfl,rfl,fun i u r hu=>by simp at hu⟩
  | [d],[v],_,_,h5=>exact h5 0 v d rfl rfl
  | d::d2::dr,v::v2::vr,h2,h4,h5=>exact ⟨_,rfl,(by simp at h2 h4 ⊢;omega),fun i u r hu hr'=>h5 i u r (by simpa using hu) hr'⟩
  | [],v::vr,h2,h4,_=>simp at h2 h4;omega
  | [d],[],h2,h4,_=>simp at h2 h4;omega
  | [d],v::v2::vr,h2,h4,_=>simp at h2 h4;omega
  | d::d2::dr,[],h2,h4,_=>simp at h2 h4;omega
  | d::d2::dr,[v],h2,h4,_=>simp at h2 h4;omega
 rintro e a' w' ⟨l',hr,hq⟩
 cases e with
 | normal=>exact fin l' a' w' hr hq
 | ret=>exact fin l' a' w' hr hq
 | exit id=>exact hq.elim
 | goto l=>exact hq.elim
 | panic ch=>exact hq.elim
 | outgrown=>exact hq.elim
end
end Go.Abs
namespace Go.Abs
open Go Go.RowKit
section
variable {P:Program} {T:Nat→TE} {C:Ctx} {Q:Exit→SL→Prop} {l:SL}
def wL (T:Nat→TE) (l:SL):List ResultVar→(List V→Prop)→Prop
 | [],K=>K []
 | .tmp t::rs,K=>qF l.env t fun v=>wL T l rs fun vs=>K (v::vs)
 | .cell x t::rs,K=>qF l.env x fun v=>vP (T t) [v] (iE l.hp) fun y _ _ _=>wL T l rs fun vs=>K (y::vs)
def enum:Nat→List V→List (Nat×V)
 | _,[]=>[]
 | k,v::vs=>(k,v)::enum (k+1) vs
def jL:List (Key×Res)→List (Key×Option Res)
 | []=>[]
 | (k,r)::l=>(k,some r)::jL l
def ajI (T:Nat→TE) (U:List Nat) (rs:List ResultVar) (news:List Nat) (xs:List V) (post:List (Key×Res)):Exit→SL→Prop
 | .ret,l=>wL T l rs fun vs=>∃ m fz,yE U m fz ⟨enum 0 vs,l.hp,l.used⟩ ⟨enum 0 xs,jL post,U++news⟩∧vs.length=xs.length
 | .normal,l=>wL T l rs fun vs=>∃ m fz,yE U m fz ⟨enum 0 vs,l.hp,l.used⟩ ⟨enum 0 xs,jL post,U++news⟩∧vs.length=xs.length
 | _,_=>False
theorem pR:∀ (vs:List V) (k t:Nat),iI (enum k vs) t=if k≤t then (match vs[t-k]? with | some d=>d | none => .any) else .any
 | [],k,t=>by simp [enum,iI]
 | d::ds,k,t=>by
   unfold enum iI
   cases h:Nat.beq k t with
   | true=>rw [← Nat.eq_of_beq_eq_true h];simp
   | false=>
     have hne:k≠t:=fun e=>by rw [e,Nat.beq_refl] at h;cases h
     simp only
     rw [pR ds (k+1) t]
     by_cases hkt:k≤t
     ·rw [if_pos (by omega),if_pos hkt,show t-k=(t-(k+1))+1 by omega]
      simp
     ·rw [if_neg (by omega),if_neg hkt]
theorem CB {k:Key} {r:Option Res}:∀ {l:List (Key×Res)},(k,r)∈jL l↔∃ r0,(k,r0)∈l∧r=some r0
 | []=>by simp [jL]
 | (k1,r1)::l=>by
   simp only [jL,List.mem_cons,Prod.mk.injEq,CB (l:=l)]
   constructor
   ·rintro (⟨rfl,rfl⟩ | ⟨r0,h1,h2⟩)
    ·exact ⟨r1,.inl ⟨rfl,rfl⟩,rfl⟩
    ·exact ⟨r0,.inr h1,h2⟩
   ·rintro ⟨r0,⟨rfl,rfl⟩ | h1,h2⟩
    ·exact .inl ⟨rfl,h2⟩
    ·exact .inr ⟨r0,h1,h2⟩
theorem I9 {k:Key} {r:Res}:∀ {l:List (Key×Option Res)},iE l k=some r→(k,some r)∈l
 | [],h=>by cases h
 | (k1,r1)::l,h=>by
   unfold iE at h
   cases hb:ET k1 k with
   | true=>rw [hb] at h;simp only at h;rw [lW.1 hb,h];exact List.mem_cons_self
   | false=>rw [hb] at h;exact List.mem_cons_of_mem _ (I9 h)
def EM:List (Key×Res)→Bool
 | []=>true
 | (k,_)::l=>l.all (fun e=>!ET k e.1)&&EM l
theorem zX {k:Key} {r:Res}:∀ {l:List (Key×Res)},EM l=true→(k,r)∈l→iE (jL l) k=some r
 | [],_,h=>by cases h
 | (k1,r1)::l,hn,h=>by
   simp only [EM,Bool.and_eq_true] at hn
   unfold jL iE
   rcases List.mem_cons.1 h with h | h
   ·cases h
    rw [lW.2 rfl]
   ·have:=List.all_eq_true.1 hn.1 _ h
    simp only [Bool.not_eq_true'] at this
    rw [this]
    exact zX hn.2 h
theorem nV (hT:TOK P T) {β:Nat→Value} {ok:Nat→Prop} {a:Act} {w:World} (h:RelB C β ok l.toS a w):∀ {rs:List ResultVar} {K:List V→Prop},wL T l rs K→∃ vs,K vs∧∃ us:List Value,
  (rs.mapM (qg a.tmps)).run P w = .ok us w∧us.length=vs.length∧∀ (i:Nat) u v,us[i]?=some u→vs[i]?=some v→RdV β l.toS.used ok w u v
 | [],K,hK=>⟨[],hK,[],by simp,rfl,fun i v d hv=>by simp at hv⟩
 | .tmp t::rs,K,hK=>by
   unfold wL at hK
   rw [iC] at hK
   obtain ⟨vs,h3,us,h5,h6,h7⟩:=nV hT h hK
   refine ⟨_,h3,a.tmps.getD t undef::us,?_,by simp [h6],fun i u v hu hv=>?_⟩
   ·rw [List.mapM_cons]
    simp only [qg,Sem.run_bind,Sem.run_pure,Result.andThen_ok,h5]
   ·cases i with
    | zero=>simp at hu hv;subst hv;rw [← hu];have:=h.env t;show RdV _ _ _ _ _ (l.toS.env t);simpa using this
    | succ i=>exact h7 i u v (by simpa using hu) (by simpa using hv)
 | .cell x t::rs,K,hK=>by
   unfold wL at hK
   rw [iC] at hK
   obtain ⟨v0,y,rd,e0,hK1,hrun⟩:=rE hT hK
   simp only [List.cons.injEq,and_true] at e0
   obtain ⟨vs,h3,us,h5,h6,h7⟩:=nV hT h hK1
   obtain ⟨v,f1,f2⟩:=hrun β l.toS.used ok w (a.tmps.getD x undef) (by rw [← e0];exact h.env x) (fun k hk r hr=>(h.heap k r hr).2)
   refine ⟨_,h3,v::us,?_,by simp [h6],fun i u v' hu hv=>?_⟩
   ·rw [List.mapM_cons]
    have:=wK f1
    simp only [qg,Sem.run_bind] at this ⊢
    rw [this]
    simp only [Result.andThen_ok,h5,Sem.run_pure]
   ·cases i with
    | zero=>simp at hu hv;subst hv;rw [← hu];exact f2
    | succ i=>exact h7 i u v' (by simpa using hu) (by simpa using hv)
theorem oW.of_wp (hT:TOK P T) {f:FuncId} {fn:Func} {c:Code} {nt:Nat} {U:List Nat} {as:List V} {pre:List (Key×Res)} {news:List Nat} {xs:List V} {post:List (Key×Res)}
  (hf:P.funcs[f]?=some fn) (hb:fn.body=some c) (hname:(fn.name == "runtime.NumGoroutine")=false) (hnt:fn.ntmps=nt) (hle:Nat.ble as.length nt=true) (hok:codeOk nt c=true) (hnd:EM post=true) (hpl:(pre++post).all (fun e=>mF e.2)=true)
  (h:∀ w0 ok0 wr β0,WP P ⟨w0,ok0,wr,nt,β0,U⟩ c (ajI T U fn.results.toList news xs post) ⟨enum 0 as,jL pre,U⟩):oW P f U as pre news xs post:=by
 have hpl1:∀ k r,(k,r)∈pre→mF r=true:=fun k r h=>List.all_eq_true.1 hpl (k,r) (List.mem_append_left _ h)
 have hpl2:∀ k r,(k,r)∈post→mF r=true:=fun k r h=>List.all_eq_true.1 hpl (k,r) (List.mem_append_right _ h)
 refine ⟨⟨fn,hf,hname,by rw [hb];rfl⟩,hpl2,fun β ok w vs hokb hsz hrd hpre hsep hinj=>calls_of_wp hf hb ?_⟩
 have hle':as.length≤nt:=Nat.le_of_ble_eq_true hle
 let C:Ctx:=⟨w,ok,kS β pre,nt,β,U⟩
 have hm:∀ k r,iE (jL pre) k=some r→(k,r)∈pre:=fun k r hk=>by
  obtain ⟨r0,h1,h2⟩:=CB.1 (I9 hk)
  cases h2;exact h1
 have hrel:Rel C (SL.toS ⟨enum 0 as,jL pre,U⟩) { tmps:=vs++Array.replicate (fn.ntmps-vs.size) undef,defers:=[] } w:=by
  refine ⟨β,ok,rfl,?_,fun t=>?_,fun k r hr=>hpre k r (hm k r hr),fun k r b hr hb=>?_,fun k k' r r' b hr hr' hb hb'=>hinj k k' r r' b (hm k r hr) (hm k' r' hr') (Blk.plain (hpl1 _ _ (hm k r hr)) hb) (Blk.plain (hpl1 _ _ (hm k' r' hr')) hb'),hokb,fun b hb=>hb,fun b hb => .inl hb,Frame.refl _ _,fun i hi=>⟨hi,rfl⟩⟩
  ·show (vs++Array.replicate (fn.ntmps-vs.size) undef).size=nt
   simp [hsz,hnt];omega
  ·show RdV _ _ _ _ _ (iI (enum 0 as) t)
   rw [pR]
   simp only [Nat.zero_le,if_true,Nat.sub_zero]
   cases hd:as[t]? with
   | none=>exact .any _
   | some d=>
     have ht:t<vs.size:=by rw [hsz];exact (List.getElem?_eq_some_iff.1 hd).1
     have hv:vs[t]?=some vs[t]:=by simp [ht]
     have e:(vs++Array.replicate (fn.ntmps-vs.size) undef).getD t undef=vs[t]:=by
      simp [Array.getElem?_append_left ht,ht]
     rw [e]
     exact hrd t _ d hv hd
  ·replace hb:=Blk.plain (hpl1 _ _ (hm k r hr)) hb
   obtain ⟨s1,s2⟩:=hsep k r b (hm k r hr) hb
   refine ⟨s1,s2,fun _=>?_⟩
   cases r with
   | cell v=>exact ⟨(hpre _ _ (hm k _ hr)).1,k,_,hm k _ hr,hb,rfl⟩
   | arr sz ys=>exact fun o=>⟨k,_,hm k _ hr,hb,trivial⟩
   | map es=>exact fun o=>⟨k,_,hm k _ hr,hb,trivial⟩
   | rows sz rs out=>exact fun o=>⟨k,_,hm k _ hr,hb,trivial⟩
 refine wp_mono (h w ok (kS β pre) β hok _ w hrel) ?_
 have fin:∀ (l':SL) (a':Act) (w':World),Rel C l'.toS a' w'→(wL T l' fn.results.toList fun vs=>∃ m fz,yE U m fz ⟨enum 0 vs,l'.hp,l'.used⟩ ⟨enum 0 xs,jL post,U++news⟩∧vs.length=xs.length) →
   a'.defers=[]∧∃ v,(results fn a'.tmps).run P w' = .ok v w'∧∃ v' β' ok',Ending.returned v = .returned v'∧(∀ i,i∈U→β' i=β i)∧RdV β' (fun i=>i∈U∨i∈news) ok' w' v' (resV xs) ∧
   (∀ k r,(k,r)∈post→(k.1∈U∨k.1∈news)∧Own β' (fun i=>i∈U∨i∈news) ok' w' k r) ∧
   (∀ k r b,(k,r)∈post→aU (β' k.1)=some b→¬ ok' b∧b<w'.heap.size∧(b<w.heap.size→match r with | .cell _=>k.1∈U∧kS β pre b k.2 | _=>∀ o,kS β pre b o)) ∧
   (∀ k k' r r' b,(k,r)∈post→(k',r')∈post→aU (β' k.1)=some b→aU (β' k'.1)=some b→k.1=k'.1) ∧
   (∀ b,ok' b→b<w'.heap.size)∧(∀ b,ok b→ok' b)∧(∀ b,ok' b→ok b∨w.heap.size≤b∨∀ o,kS β pre b o)∧Frame (kS β pre) w w':=fun l' a' w' ⟨β1,ok1,hr⟩ hq=>by
  obtain ⟨vs',⟨m,fz,hw,hlen⟩,us,h3,h4,h5⟩:=nV hT hr hq
  have hr2:RelB { C with nt:=us.length } β1 ok1 (SL.toS ⟨enum 0 vs',l'.hp,l'.used⟩) ⟨us.toArray,[]⟩ w':=by
   refine ⟨rfl,by simp,fun t=>?_,hr.heap,hr.sep,hr.inj,hr.okb,hr.ok0,hr.okn,hr.frame,hr.keep⟩
   show RdV _ _ _ _ _ (iI (enum 0 vs') t)
   rw [pR]
   simp only [Nat.zero_le,if_true,Nat.sub_zero]
   cases hd:vs'[t]? with
   | none=>exact .any _
   | some d=>
     have ht:t<us.length:=by rw [h4];exact (List.getElem?_eq_some_iff.1 hd).1
     have hu:us[t]?=some us[t]:=by simp
     have e:(us.toArray).getD t undef=us[t]:=by simp [ht]
     show RdV _ _ _ _ (us.toArray.getD t undef) _
     rw [e]
     exact h5 t _ d hu hd
  have hr3:=hr2.weak hw
  have hU:(SL.toS ⟨enum 0 xs,jL post,U++news⟩).used=fun i=>i∈U∨i∈news:=by funext i;exact propext List.mem_append
  have hpost:∀ k r,(k,r)∈post→(SL.toS ⟨enum 0 xs,jL post,U++news⟩).hp k=some r:=fun k r hk=>zX hnd hk
  refine ⟨hr.defers,_,kF h3,_,_,_,rfl,fun i hi=>(hr3.keep i hi).2,?_,fun k r hk=>?_,fun k r b hk hb=>?_,fun k k' r r' b hk hk' hb hb'=>hr3.inj k k' r r' b (hpost k r hk) (hpost k' r' hk') (.inl hb) (.inl hb'),hr3.okb,hr3.ok0,hr3.okn,hr3.frame⟩
  ·have hval:∀ (i:Nat) u x,us[i]?=some u→xs[i]?=some x→RdV _ (fun i=>i∈U∨i∈news) _ w' u x:=fun i u x hu hx=>by
    have:=hr3.env i
    rw [hU] at this
    have e2:(SL.toS ⟨enum 0 xs,jL post,U++news⟩).env i=x:=by
     show iI (enum 0 xs) i=x
     rw [pR]
     simp [hx]
    rw [e2] at this
    have e3:({ tmps:=us.toArray,defers:=[] }:Act).tmps.getD i undef=u:=by simp [hu]
    rw [e3] at this
    exact this
   match us,xs,(h4.trans hlen:us.length=xs.length),hval with
   | [],[],_,_=>exact .tuple #[] _ rfl (fun i v c hv=>by simp at hv)
   | [u],[x],_,hval=>exact hval 0 u x rfl rfl
   | u::u2::ur,x::x2::xr,hl,hval=>exact .tuple _ _ (by simpa using hl) (fun i v c hv hc=>hval i v c (by simpa using hv) hc)
   | [],x::xr,hl,_=>simp at hl
   | [u],[],hl,_=>simp at hl
   | [u],x::x2::xr,hl,_=>simp at hl
   | u::u2::ur,[],hl,_=>simp at hl
   | u::u2::ur,[x],hl,_=>simp at hl
  ·have:=hr3.heap k r (hpost k r hk)
   rw [hU] at this
   exact this
  ·have:=hr3.sep k r b (hpost k r hk) (.inl hb)
   refine ⟨this.1,this.2.1,fun hlt=>?_⟩
   have h3:=this.2.2 hlt
   cases r with
   | cell v=>exact h3
   | arr sz ys=>exact h3
   | map es=>exact h3
   | rows sz rs out=>exact absurd (hpl2 _ _ hk) (by simp [mF])
 rintro e a' w' ⟨l',hr,hq⟩
 cases e with
 | normal=>exact fin l' a' w' hr hq
 | ret=>exact fin l' a' w' hr hq
 | exit id=>exact hq.elim
 | goto l=>exact hq.elim
 | panic ch=>exact hq.elim
 | outgrown=>exact hq.elim
end
end Go.Abs
