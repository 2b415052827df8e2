/- States as lists; the walk's rules. -/
import Derived.Test.YtbhfbliodeagmaaGreatDoorAbsWAnd
set_option linter.all false
namespace Go.Abs
open Go Go.RowKit
structure SL where
 env:List (Nat×V)
 hp:List (Key×Option Res)
 used:List Nat
def lJ:List (Nat×V)→Nat→V
 | [],_ => .any
 | (t',v)::r,t=>match Nat.beq t' t with | true=>v | false=>lJ r t
def O8 (a b:Key):Bool:=match Nat.beq a.1 b.1 with | true=>Nat.beq a.2 b.2 | false=>false
theorem xq {a b:Key}:O8 a b=true↔a=b:=by
 obtain ⟨a1,a2⟩:=a
 obtain ⟨b1,b2⟩:=b
 unfold O8
 simp only [Prod.mk.injEq]
 cases h:Nat.beq a1 b1 with
 | true=>simp only [Nat.eq_of_beq_eq_true h,true_and];exact ⟨fun h=>Nat.eq_of_beq_eq_true h,fun h=>by rw [h];exact Nat.beq_refl b2⟩
 | false=>
   constructor
   ·intro h';cases h'
   ·rintro ⟨rfl,_⟩;rw [Nat.beq_refl] at h;cases h
def kL:List (Key×Option Res)→Key→Option Res
 | [],_=>none
 | (k',r)::l,k=>match O8 k' k with | true=>r | false=>kL l k
def SL.toS (l:SL):S:={ env:=lJ l.env,hp:=kL l.hp,used:=fun i=>i∈l.used }
def zT:List (Nat×V)→Nat→(V→Prop)→Prop
 | [],_,K=>K .any
 | (t',v)::r,t,K=>match Nat.beq t' t with | true=>K v | false=>zT r t K
theorem kW {K:V→Prop} {t:Nat}:∀ {env:List (Nat×V)},zT env t K↔K (lJ env t)
 | []=>Iff.rfl
 | (t',v)::r=>by
   unfold zT lJ
   cases Nat.beq t' t with
   | true=>exact Iff.rfl
   | false=>exact kW (env:=r)
def opK (l:SL) (x:Operand) (K:V→Prop):Prop:=
 match x with
 | .tmp t=>zT l.env t K
 | .const v=>match v with
   | .bool b=>K (.d (.bool b))
   | .int k n=>K (.d (.int k n))
   | v=>K (Et v)
 | .global g=>glK (gl g) K
 | .func f=>K (.func (.func f) [] [])
theorem QK {l:SL} {x:Operand} {K:V→Prop}:opK l x K↔K (l.toS.ev x):=by
 cases x with
 | tmp t=>exact kW
 | const v=>cases v<;>exact Iff.rfl
 | global g=>exact acD
 | func f=>exact Iff.rfl
def KW (l:SL):List Operand→(List V→Prop)→Prop
 | [],K=>K []
 | x::xs,K=>opK l x fun v=>KW l xs fun vs=>K (v::vs)
theorem FN {l:SL}:∀ {xs:List Operand} {K:List V→Prop},KW l xs K↔K (xs.map l.toS.ev)
 | [],K=>Iff.rfl
 | x::xs,K=>by
   unfold KW
   rw [QK,FN]
   exact Iff.rfl
def bC:Op→List Operand
 | .alloc _ | .ready _ | .waits _=>[]
 | .move x | .assign x | .box _ x | .load _ x | .nilCheck x | .unOp _ _ x | .convert _ _ x | .sliceToArrayPointer _ x | .makeInterface _ x
 | .makeChan _ x | .fieldAddr _ x _ | .field _ x _ | .range _ x | .next x _ | .entry x | .typeAssert x _ _ _ | .extract x _ | .panic x | .recv _ x _=>[x]
 | .pick c a b=>[c,a,b]
 | .build _ ⟨ps⟩ | .buildSlice _ _ ⟨ps⟩=>ps.map (·.2)
 | .store _ a v | .binOp _ _ a v _ | .makeSlice _ a v | .indexAddr _ a v | .index _ a v | .lookup _ a v _ | .mapEntry _ a v | .send a v=>[a,v]
 | .makeFunc _ ⟨first⟩ ⟨captured⟩=>first++captured
 | .makeMap _ r=>r.toList
 | .slice _ x l h m=>[x]++l.toList++h.toList++m.toList
 | .mapUpdate _ m k v | .entryStore _ m k v | .insert _ m k v=>[m,k,v]
 | .call c=>match c.callee,c.args with
   | .value f,⟨as⟩=>f::as
   | .invoke r _,⟨as⟩=>r::as
   | .builtin _,⟨as⟩=>as
 | op=>op.operands.toList
theorem oG (op:Op):op.operands.toList=bC op:=by
 cases op<;>simp [bC,Op.operands]
 case call c=>
  obtain ⟨callee,⟨as⟩,tys⟩:=c
  cases callee<;>simp [Call.operands]
def ahX (t:Option Tmp):List Nat→Bool
 | []=>false
 | x::xs=>match t with | some d=>Nat.beq d x||ahX t xs | none=>false
def inB (i:Nat):List Nat→Bool
 | []=>false
 | x::xs=>match Nat.beq i x with | true=>true | false=>inB i xs
theorem yS {i:Nat}:∀ {l:List Nat},inB i l=false→i∉l
 | [],_=>by simp
 | x::xs,h=>by
   unfold inB at h
   split at h
   ·cases h
   ·rename_i hx
    have h2:=yS h
    simp only [List.mem_cons,not_or]
    exact ⟨(fun e=>by rw [e,Nat.beq_refl] at hx;cases hx),h2⟩
def yV:List Nat→List Nat→Bool
 | [],_=>true
 | i::is,l=>match inB i l with | true=>false | false=>yV is l
theorem qQ:∀ {is l:List Nat},yV is l=true→∀ i∈is,i∉l
 | [],l,_,i,hi=>by cases hi
 | j::is,l,h,i,hi=>by
   unfold yV at h
   split at h
   ·cases h
   ·rename_i hj
    rcases List.mem_cons.1 hi with rfl | hi
    ·exact yS hj
    ·exact qQ h i hi
def LG {α:Type}:List α→List α→(List α→Prop)→Prop
 | [],l,K=>K l
 | x::xs,l,K=>LG xs l fun r=>K (x::r)
theorem yK {α:Type}:∀ {xs l:List α} {K:List α→Prop},LG xs l K↔K (xs++l)
 | [],l,K=>Iff.rfl
 | x::xs,l,K=>by unfold LG;exact yK
structure Ft where
 rd:List Key
 wr:List Key
 nw:List Nat
def SL.zo (l:SL) (dst:Option Tmp) (x:V) (δ:List (Key×Option Res)) (nw:List Nat) (K:SL→Prop):Prop:=
 match l with
 | ⟨env,hp,used⟩=>LG δ hp fun hp'=>LG nw used fun used'=>match dst with
   | some t=>K ⟨(t,x)::env,hp',used'⟩
   | none=>K ⟨env,hp',used'⟩
theorem zS {δ hp:List (Key×Option Res)}:kL (δ++hp)=jX (kL hp) δ:=by
 funext k
 induction δ with
 | nil=>rfl
 | cons e δ ih=>
   obtain ⟨k',r⟩:=e
   show (match O8 k' k with | true=>r | false=>kL (δ++hp) k)=if k'=k then r else jX (kL hp) δ k
   rw [← ih]
   cases h:O8 k' k with
   | true=>rw [if_pos (xq.1 h)]
   | false=>rw [if_neg (fun e=>by rw [xq.2 e] at h;cases h)]
theorem Ag {l:SL} {dst:Option Tmp} {x:V} {δ:List (Key×Option Res)} {nw:List Nat} {K:SL→Prop} (h:l.zo dst x δ nw K):∃ l',K l'∧l'.toS=l.toS.apply dst x δ nw:=by
 obtain ⟨env,hp,used⟩:=l
 unfold SL.zo at h
 simp only at h
 rw [yK,yK] at h
 have hu:(fun i=>i∈nw++used)=fun i=>i∈used∨i∈nw:=by
  funext i;simp [or_comm]
 cases dst with
 | none=>
   refine ⟨_,h,?_⟩
   simp only [SL.toS,S.apply,zS,hu]
   congr 1
 | some d=>
   refine ⟨_,h,?_⟩
   simp only [SL.toS,S.apply,zS,hu]
   congr 1
   funext t
   show (match Nat.beq d t with | true=>x | false=>lJ env t)=if some d=some t then x else lJ env t
   cases e:Nat.beq d t with
   | true=>rw [if_pos (by rw [Nat.eq_of_beq_eq_true e])]
   | false=>rw [if_neg (fun e'=>by cases e';rw [Nat.beq_refl] at e;cases e)]
def Em:List Oper→Nat→Option Tmp
 | [],_=>none
 | o::_,0=>o.dst
 | _::os,j+1=>Em os j
theorem Ej:∀ (os:List Oper) (j:Nat),Em os j=(os[j]?).bind (·.dst)
 | [],j=>rfl
 | o::os,0=>rfl
 | o::os,j+1=>by simpa [Em] using Ej os j
def akL (o:Oper):Nat:=match o.dst with | some d=>d | none=>0
def PL (v:V) (want:Bool) (A B:Prop):Prop:=match v with
 | .undef=>B
 | v=>La v fun b=>match want with | true=>uT b A B | false=>uT b B A
theorem Nk {v:V} {want:Bool} {A B:Prop} (h:PL v want A B):(v = .undef∧B)∨∃ b,v = .d (.bool b)∧((b=want∧A)∨(b=!want∧B)):=by
 unfold PL at h
 split at h
 ·exact .inl ⟨rfl,h⟩
 ·obtain ⟨b,hb,hAB⟩:=uN h
  refine .inr ⟨b,hb,?_⟩
  cases want with
  | true=>
    rcases oz hAB with ⟨e,hA⟩ | ⟨e,hB⟩
    ·exact .inl ⟨e,hA⟩
    ·exact .inr ⟨e,hB⟩
  | false=>
    rcases oz hAB with ⟨e,hB⟩ | ⟨e,hA⟩
    ·exact .inr ⟨e,hB⟩
    ·exact .inl ⟨e,hA⟩
def Wu (P:Program) (T:Nat→TE) (M:List Nat) (os:List Oper) (o:Oper) (l:SL) (K:SL→Ft→Prop):Prop:=
 let A:=KW l (bC o.op) fun vals=>acH P T (ahX o.dst M) o vals (kL l.hp) (akL o) fun x δ rd nw=>bD (yV nw l.used) (l.zo o.dst x δ nw fun l'=>K l' ⟨rd,δ.map (·.1),nw⟩)
 let B:=l.zo o.dst .undef [] [] fun l'=>K l' ⟨[],[],[]⟩
 match o.guard with
 | none=>A
 | some (j,want)=>match Em os j with
   | some d=>zT l.env d fun v=>PL v want A B
   | none=>False
def qR (y:Y):Ft:=⟨y.rd,y.δ.map (·.1),y.nw⟩
theorem Lm {P:Program} {T:Nat→TE} (hT:TOK P T) {M:List Nat} {ops:Array Oper} {o:Oper} {l:SL} {K:SL→Ft→Prop} (h:Wu P T M ops.toList o l K) :
  ∃ y l',K l' (qR y)∧Yields P ops o y l.toS∧l'.toS=l.toS.after o y:=by
 unfold Wu at h
 have goA:(KW l (bC o.op) fun vals=>acH P T (ahX o.dst M) o vals (kL l.hp) (akL o) fun x δ rd nw=>bD (yV nw l.used) (l.zo o.dst x δ nw fun l'=>K l' ⟨rd,δ.map (·.1),nw⟩)) →
   fD ops o l.toS=some true→∃ y l',K l' (qR y)∧Yields P ops o y l.toS∧l'.toS=l.toS.after o y:=fun h hw=>by
  rw [FN] at h
  obtain ⟨x,δ,rd,nw,h1,h2⟩:=PV hT h
  obtain ⟨h3,h4⟩:=aF h1
  obtain ⟨l',h5,h6⟩:=Ag h4
  exact ⟨⟨x,δ,rd,nw⟩,l',h5,.inl ⟨hw,kL l.hp,by rw [oG];exact h2,fun k hk=>rfl,fun i hi=>qQ h3 i hi⟩,h6⟩
 have goB:(l.zo o.dst .undef [] [] fun l'=>K l' ⟨[],[],[]⟩)→fD ops o l.toS=some false→∃ y l',K l' (qR y)∧Yields P ops o y l.toS∧l'.toS=l.toS.after o y:=fun h hw=>by
  obtain ⟨l',h5,h6⟩:=Ag h
  exact ⟨⟨.undef,[],[],[]⟩,l',h5,.inr ⟨hw,rfl⟩,h6⟩
 split at h
 ·rename_i hg
  exact goA h (by unfold fD;rw [hg])
 ·rename_i j want hg
  split at h
  ·rename_i d hd
   rw [kW] at h
   have e:(ops[j]?).bind (·.dst)=some d:=by rw [← hd,Ej];simp
   rcases Nk h with ⟨hun,hB⟩ | ⟨b,hb,hAB⟩
   ·refine goB hB ?_
    unfold fD
    rw [hg]
    simp only [e]
    show (match lJ l.env d with | .d (.bool b)=>some (b==want) | .undef=>some false | _=>none)=_
    rw [hun]
   ·have hw:fD ops o l.toS=some (b==want):=by
     unfold fD
     rw [hg]
     simp only [e]
     show (match lJ l.env d with | .d (.bool b)=>some (b==want) | .undef=>some false | _=>none)=_
     rw [hb]
    rcases hAB with ⟨e,hA⟩ | ⟨e,hB⟩
    ·exact goA hA (by rw [hw,e];simp)
    ·exact goB hB (by rw [hw,e];cases want<;>rfl)
  ·exact h.elim
def ab9 (k:Key):List Key→Bool
 | []=>false
 | x::xs=>match O8 k x with | true=>true | false=>ab9 k xs
theorem CZ {k:Key}:∀ {l:List Key},ab9 k l=false→k∉l
 | [],_=>by simp
 | x::xs,h=>by
   unfold ab9 at h
   split at h
   ·cases h
   ·rename_i hx
    simp only [List.mem_cons,not_or]
    exact ⟨(fun e=>by rw [xq.2 e] at hx;cases hx),CZ h⟩
def Hq:List Key→List Key→Bool
 | [],_=>true
 | k::ks,l=>match ab9 k l with | true=>false | false=>Hq ks l
theorem pF:∀ {ks l:List Key},Hq ks l=true→∀ k∈ks,k∉l
 | [],l,_,k,hk=>by cases hk
 | j::ks,l,h,k,hk=>by
   unfold Hq at h
   split at h
   ·cases h
   ·rename_i hj
    rcases List.mem_cons.1 hk with rfl | hk
    ·exact CZ hj
    ·exact pF h k hk
def apartB (x y:Ft):Bool:=Hq x.wr y.rd&&Hq x.wr y.wr&&Hq y.wr x.rd&&yV x.nw y.nw
theorem NU {x y:Y} (h:apartB (qR x) (qR y)=true):Apart x y:=by
 simp only [apartB,Bool.and_eq_true,qR] at h
 obtain ⟨⟨⟨h1,h2⟩,h3⟩,h4⟩:=h
 have hm:∀ (y:Y) k r,(k,r)∈y.δ→k∈y.δ.map (·.1):=fun y k r hk=>List.mem_map.2 ⟨_,hk,rfl⟩
 exact ⟨fun k r hk=>⟨pF h1 k (hm x k r hk),fun r' hr'=>pF h2 k (hm x k r hk) (hm y k r' hr')⟩,fun k r hk=>pF h3 k (hm y k r hk),qQ h4⟩
def uM (i:Nat):List Edge→Bool
 | []=>false
 | e::es=>match Region.binds .any e&&Nat.beq e.on i with | true=>true | false=>uM i es
theorem qo {i:Nat}:∀ {es:List Edge},uM i es=true→∃ e∈es,Region.binds .any e=true∧e.on=i
 | [],h=>by cases h
 | e::es,h=>by
   unfold uM at h
   split at h
   ·rename_i he
    simp only [Bool.and_eq_true] at he
    exact ⟨e,by simp,he.1,Nat.eq_of_beq_eq_true he.2⟩
   ·obtain ⟨e',h1,h2⟩:=qo h
    exact ⟨e',by simp [h1],h2⟩
def chk (es:List Edge) (fp:Ft):List (Nat×Ft)→Bool
 | []=>true
 | (i,f)::acc=>match uM i es||apartB f fp with | true=>chk es fp acc | false=>false
theorem NP {es:List Edge} {fp:Ft}:∀ {acc:List (Nat×Ft)},chk es fp acc=true→∀ i f,(i,f)∈acc→uM i es=true∨apartB f fp=true
 | [],_,i,f,hm=>by cases hm
 | (j,g)::acc,h,i,f,hm=>by
   unfold chk at h
   split at h
   ·rename_i hj
    rcases List.mem_cons.1 hm with hm | hm
    ·cases hm;simpa using hj
    ·exact NP h i f hm
   ·cases h
def Ar (P:Program) (T:Nat→TE) (M:List Nat) (draw:Bool) (all:List Oper):List Oper→Nat→List (Nat×Ft)→SL→(SL→Prop)→Prop
 | [],_,_,l,K=>K l
 | o::os,k,acc,l,K=>Wu P T M all o l fun l' fp=>match draw with
   | false=>Ar P T M draw all os (k+1) acc l' K
   | true=>bD (chk o.after.toList fp acc) (Ar P T M draw all os (k+1) ((k,fp)::acc) l' K)
theorem BQ {P:Program} {T:Nat→TE} (hT:TOK P T) {M:List Nat} {draw:Bool} {ops:Array Oper} {K:SL→Prop}:∀ (os:List Oper) (k:Nat) (acc:List (Nat×Ft)) (l:SL) (ys0:Nat→Y),
  Ar P T M draw ops.toList os k acc l K→(draw=true→∀ i,i<k→(i,qR (ys0 i))∈acc) →
  ∃ ys:Nat→Y,(∀ i,i<k→ys i=ys0 i)∧Vl P ops ys (fun s=>∃ l',s=l'.toS∧K l') os k l.toS ∧
    (draw=true→∀ i j oj,os[j]?=some oj→i<k+j→(∀ e∈oj.after,Region.binds .any e=true→e.on≠i)→Apart (ys i) (ys (k+j)))
 | [],k,acc,l,ys0,h,_=>⟨ys0,fun _ _=>rfl,⟨l,rfl,h⟩,fun _ i j oj hj=>by simp at hj⟩
 | o::os,k,acc,l,ys0,h,hacc=>by
   unfold Ar at h
   obtain ⟨y,l',h1,h2,h3⟩:=Lm hT h
   let ys1:Nat→Y:=fun i=>if i=k then y else ys0 i
   have hk:ys1 k=y:=by simp [ys1]
   have hlt:∀ i,i<k→ys1 i=ys0 i:=fun i hi=>by simp only [ys1];rw [if_neg (by omega)]
   have key:∃ acc',Ar P T M draw ops.toList os (k+1) acc' l' K∧(draw=true→∀ i,i<k+1→(i,qR (ys1 i))∈acc')∧(draw=true→∀ i,i<k→(∀ e∈o.after,Region.binds .any e=true→e.on≠i)→Apart (ys1 i) y):=by
    cases draw with
    | false=>exact ⟨acc,h1,(fun h=>by cases h),(fun h=>by cases h)⟩
    | true=>
      obtain ⟨hc,h1⟩:=aF h1
      refine ⟨_,h1,fun _ i hi=>?_,fun _ i hi hno=>?_⟩
      ·rcases Nat.lt_or_ge i k with hik | hik
       ·rw [hlt i hik];exact List.mem_cons_of_mem _ (hacc rfl i hik)
       ·have:i=k:=by omega
        subst this;rw [hk];exact List.mem_cons_self
      ·rcases NP hc i _ (hacc rfl i hi) with hw | hap
       ·obtain ⟨e,he,hb,hon⟩:=qo hw
        exact absurd hon (hno e (by simpa using he) hb)
       ·rw [hlt i hi];exact NU hap
   obtain ⟨acc',hr,ha,hn⟩:=key
   obtain ⟨ys,g1,g2,g3⟩:=BQ hT os (k+1) acc' l' ys1 hr ha
   have hyk:ys k=y:=(g1 k (by omega)).trans hk
   refine ⟨ys,fun i hi=>(g1 i (by omega)).trans (hlt i hi),⟨by rw [hyk];exact h2,by rw [hyk,← h3];exact g2⟩,fun hd i j oj hj hij hno=>?_⟩
   cases j with
   | zero=>
     simp at hj
     subst hj
     have:=hn hd i (by omega) hno
     rw [← g1 i (by omega)] at this
     rw [Nat.add_zero,hyk]
     exact this
   | succ j=>
     have:=g3 hd i j oj (by simpa using hj) (by omega) hno
     rw [show k+(j+1)=k+1+j by omega]
     exact this
def iZ (x:Nat):List Nat→Bool
 | []=>false
 | y::ys=>match Nat.beq x y with | true=>true | false=>iZ x ys
theorem Jh (x:Nat):∀ l:List Nat,iZ x l=l.contains x
 | []=>rfl
 | y::ys=>by
   unfold iZ
   rw [List.contains_cons,← Jh x ys]
   by_cases e:x=y
   ·subst e;simp
   ·have:Nat.beq x y=false:=by cases h:Nat.beq x y with
     | true=>exact absurd (Nat.eq_of_beq_eq_true h) e
     | false=>rfl
    simp [this,e]
def tmpsOf:List Operand→List Nat
 | []=>[]
 | .tmp t::r=>t::tmpsOf r
 | _::r=>tmpsOf r
theorem FU:∀ l:List Operand,tmpsOf l=l.filterMap fun | .tmp t=>some t | _=>none
 | []=>rfl
 | x::r=>by cases x<;>simp [tmpsOf,FU r]
def eG (os:List Oper) (o:Oper):List Nat:=
 tmpsOf o.op.operands.toList++(match o.guard with
  | some (g,_)=>match Em os g with | some d=>[d] | none=>[]
  | none=>[])
theorem Gs (ops:Array Oper) (o:Oper):eG ops.toList o=o.looksAt ops:=by
 unfold eG Oper.looksAt
 rw [FU]
 congr 1
 cases o.guard with
 | none=>rfl
 | some gw=>
   obtain ⟨g,wt⟩:=gw
   have e:(ops[g]?).bind (·.dst)=Em ops.toList g:=by rw [Ej];simp
   simp only [e]
   cases Em ops.toList g<;>rfl
def KL (d1:Option Nat) (l1:List Nat) (d2:Option Nat) (l2:List Nat):Bool:=
 match (match d1 with
  | some d=>match iZ d l2 with | true=>false | false=>(match d2 with | some d'=>!Nat.beq d' d | none=>true)
  | none=>true) with
 | true=>(match d2 with | some d=>!iZ d l1 | none=>true)
 | false=>false
theorem NT {ops:Array Oper} {x y:Oper} (h:KL x.dst (eG ops.toList x) y.dst (eG ops.toList y)=true):x.apart ops y=true:=by
 rw [Gs,Gs] at h
 unfold KL at h
 unfold Oper.apart
 split at h
 ·rename_i h1
  rw [Bool.and_eq_true]
  constructor
  ·split at h1
   ·rename_i d hd
    simp only [hd]
    split at h1
    ·cases h1
    ·rename_i hm
     rw [Jh] at hm
     rw [hm]
     cases hy:y.dst with
     | none=>rfl
     | some d'=>
       rw [hy] at h1
       simp only at h1
       have hne:d'≠d:=by intro e;subst e;simp at h1
       simp [hne]
   ·rename_i hd;simp only [hd]
  ·split at h
   ·rename_i d hd;simp only [hd];rw [← Jh];exact h
   ·rename_i hd;simp only [hd]
 ·cases h
def Ee (k:Nat):List Edge→Bool
 | []=>true
 | e::es=>match Region.binds .any e with
   | true=>(match Nat.blt e.on k with | true=>Ee k es | false=>false)
   | false=>Ee k es
theorem qZ {k:Nat}:∀ {es:List Edge},Ee k es=true→∀ e∈es,Region.binds .any e=true→e.on<k
 | [],_,e,he,_=>by cases he
 | x::es,h,e,he,hb=>by
   unfold Ee at h
   split at h
   ·split at h
    ·rename_i h2
     rcases List.mem_cons.1 he with rfl | he
     ·exact Nat.le_of_ble_eq_true h2
     ·exact qZ h e he hb
    ·cases h
   ·rename_i h1
    rcases List.mem_cons.1 he with rfl | he
    ·rw [hb] at h1;cases h1
    ·exact qZ h e he hb
def OZ:Op→Bool
 | .select ..=>false
 | _=>true
def Ci (es:List Edge) (d:Option Nat) (l:List Nat):List (Nat×Option Nat×List Nat)→Bool
 | []=>true
 | (i,di,li)::acc=>match uM i es with
   | true=>Ci es d l acc
   | false=>(match KL di li d l with | true=>Ci es d l acc | false=>false)
theorem qK {es:List Edge} {d:Option Nat} {l:List Nat}:∀ {acc:List (Nat×Option Nat×List Nat)},Ci es d l acc=true→∀ i di li,(i,di,li)∈acc→uM i es=true∨KL di li d l=true
 | [],_,i,di,li,h=>by cases h
 | (i',d',l')::acc,h,i,di,li,hm=>by
   unfold Ci at h
   split at h
   ·rename_i h1
    rcases List.mem_cons.1 hm with e | hm
    ·cases e;exact .inl h1
    ·exact qK h i di li hm
   ·split at h
    ·rename_i h2
     rcases List.mem_cons.1 hm with e | hm
     ·cases e;exact .inr h2
     ·exact qK h i di li hm
    ·cases h
def Ns (all:List Oper):List Oper→Nat→List (Nat×Option Nat×List Nat)→Bool
 | [],_,_=>true
 | o::os,k,acc=>match OZ o.op with
   | true=>(match Ee k o.after.toList with
     | true=>(match Ci o.after.toList o.dst (eG all o) acc with
       | true=>Ns all os (k+1) ((k,o.dst,eG all o)::acc)
       | false=>false)
     | false=>false)
   | false=>false
theorem DW {ops:Array Oper}:∀ (os:List Oper) (k:Nat) (acc:List (Nat×Option Nat×List Nat)),Ns ops.toList os k acc=true→(∀ j,os[j]?=ops[k+j]?) →
  (∀ i oi,i<k→ops[i]?=some oi→(i,oi.dst,eG ops.toList oi)∈acc) →
  ∀ j oj,k≤j→ops[j]?=some oj→OZ oj.op=true∧(∀ e∈oj.after,Region.binds .any e=true→e.on<j) ∧
    ∀ i oi,i<j→ops[i]?=some oi→(∀ e∈oj.after,Region.binds .any e=true→e.on≠i)→oi.apart ops oj=true
 | [],k,acc,_,hl,_,j,oj,hj,hoj=>by
   have:=hl (j-k)
   rw [show k+(j-k)=j by omega,hoj] at this
   simp at this
 | o::os,k,acc,h,hl,hacc,j,oj,hj,hoj=>by
   unfold Ns at h
   split at h
   case h_2=>cases h
   rename_i h1
   split at h
   case h_2=>cases h
   rename_i h2
   split at h
   case h_2=>cases h
   rename_i h3
   have h0:ops[k]?=some o:=by simpa using (hl 0).symm
   rcases Nat.lt_or_ge k j with hlt | hge
   ·refine DW os (k+1) _ h (fun j=>by have:=hl (j+1);simpa [Nat.add_assoc,Nat.add_comm 1 j] using this) (fun i oi hi hoi=>?_) j oj hlt hoj
    rcases Nat.lt_or_ge i k with hik | hik
    ·exact List.mem_cons_of_mem _ (hacc i oi hik hoi)
    ·have:i=k:=by omega
     subst this
     rw [h0] at hoi;cases hoi
     exact List.mem_cons_self
   ·have:j=k:=by omega
    subst this
    rw [h0] at hoj;cases hoj
    refine ⟨h1,fun e he hb=>qZ h2 e (by simpa using he) hb,fun i oi hi hoi hno=>?_⟩
    rcases qK h3 _ _ _ (hacc i oi hi hoi) with hw | hap
    ·obtain ⟨e,he,hb,hon⟩:=qo hw
     exact absurd hon (hno e (by simpa using he) hb)
    ·exact NT hap
theorem VB {ops:Array Oper} (h:Ns ops.toList ops.toList 0 []=true):Region.lexB .any ops=true:=by
 have key:=DW ops.toList 0 [] h (fun j=>by simp) (fun i oi hi=>by omega)
 have main:∀ (n k:Nat) (listed:Array Bool),k+n=ops.size→listed.size=ops.size→(∀ j,j<ops.size→listed[j]?=some (decide (j<k)))→Region.lexFrom .any ops n k listed=true:=by
  intro n
  induction n with
  | zero=>
    intro k listed hk hs hl
    unfold Region.lexFrom
    rw [List.isEmpty_iff]
    refine List.eq_nil_iff_forall_not_mem.2 fun j hj=>?_
    obtain ⟨h1,o,ho,_⟩:=mem_ready.1 hj
    have hlt:=(Array.getElem?_eq_some_iff.1 ho).1
    have:=hl j hlt
    simp only [Array.getD_eq_getD_getElem?,this,Option.getD_some] at h1
    have:j<k:=by omega
    simp [this] at h1
  | succ n ih=>
    intro k listed hk hs hl
    unfold Region.lexFrom
    have hlt:k<ops.size:=by omega
    have h0:ops[k]?=some ops[k]:=by simp [hlt]
    simp only [Bool.and_eq_true]
    refine ⟨⟨?_,?_⟩,ih (k+1) _ (by omega) (by simpa using hs) (fun j hj=>?_)⟩
    ·rw [List.contains_iff_mem,mem_ready]
     refine ⟨by simp only [Array.getD_eq_getD_getElem?,hl k hlt];simp,ops[k],h0,fun e he hb=>?_⟩
     have h1:=(key k _ (Nat.zero_le _) h0).2.1 e he hb
     simp only [Array.getD_eq_getD_getElem?,hl e.on (by omega),Option.getD_some]
     simp [h1]
    ·unfold Region.free
     rw [h0]
     simp only [List.all_eq_true,List.mem_range]
     intro j hj
     have hj0:ops[j]?=some ops[j]:=by simp [hj]
     by_cases e:j=k
     ·simp [e]
     ·simp only [Array.getD_eq_getD_getElem?,hl j hj,Option.getD_some,hj0]
      rcases Nat.lt_or_ge j k with hjk | hjk
      ·simp [hjk]
      ·by_cases hw:∀ e∈ops[j].after,Region.binds .any e=true→e.on≠k
       ·have:=(key j _ (Nat.zero_le _) hj0).2.2 k _ (by omega) h0 hw
        simp [this]
       ·have:(ops[j].after.any fun e=>Region.binds .any e&&e.on==k)=true:=by
         cases hany:(ops[j].after.any fun e=>Region.binds .any e&&e.on==k) with
         | true=>rfl
         | false=>
           refine absurd (fun e he hb hon=>?_) hw
           have:(ops[j].after.any fun e=>Region.binds .any e&&e.on==k)=true:=Array.any_eq_true'.2 ⟨e,he,by simp [hb,hon]⟩
           rw [hany] at this
           cases this
        simp [this]
    ·by_cases e:k=j
     ·subst e;simp [hs,hj]
     ·rw [Array.getElem?_setIfInBounds_ne e,hl j hj]
      congr 1
      by_cases h':j<k
      ·simp [h'];omega
      ·simp [h'];omega
 simp only [Region.lexB,Bool.and_eq_true]
 refine ⟨?_,main ops.size 0 _ (by omega) (by simp) (fun j hj=>by simp [hj])⟩
 unfold Region.noSelect
 rw [Array.all_eq_true_iff_forall_mem]
 intro o ho
 obtain ⟨j,hj⟩:=Array.getElem?_of_mem ho
 have:=(key j o (Nat.zero_le _) hj).1
 unfold OZ at this
 split at this<;>simp_all
def codeOk (nt:Nat):Code→Bool
 | .region _ ops draw=>Cm nt ops&&(!draw||Ns ops.toList ops.toList 0 [])
 | .seq a b=>codeOk nt a&&codeOk nt b
 | .cond _ a b=>codeOk nt a&&codeOk nt b
 | .block _ c=>codeOk nt c
 | .loop c=>codeOk nt c
 | .skip | .exit _ | .ret=>true
 | _=>false
def WP (P:Program) (C:Ctx) (c:Code) (Q:Exit→SL→Prop) (l:SL):Prop:=
 codeOk C.nt c=true→∀ a w,Rel C l.toS a w→c.wp P (fun e a' w'=>∃ l',Rel C l'.toS a' w'∧Q e l') a w
section
variable {P:Program} {T:Nat→TE} {C:Ctx} {Q:Exit→SL→Prop} {l:SL}
theorem W2 (hT:TOK P T) (hm:P.follows .mixedOrders=true) (M:List Nat) {id:Nat} {ops:List Oper} {draw:Bool} (h:Ar P T M draw ops ops 0 [] l fun l'=>Q .normal l'):WP P C (.region id ops.toArray draw) Q l:=by
 intro hok a w hr
 simp only [codeOk,Bool.and_eq_true] at hok
 obtain ⟨ys,_,h2,h3⟩:=BQ (ops:=ops.toArray) hT ops 0 [] l (fun _=>⟨.any,[],[],[]⟩) h (fun _ i hi=>by omega)
 have hQ:∀ s a w,Rel C s a w→(∃ l',s=l'.toS∧Q .normal l')→∃ l',Rel C l'.toS a w∧Q .normal l':=fun s a w hr ⟨l',e,hq⟩=>⟨l',e ▸ hr,hq⟩
 cases draw with
 | false=>exact Bg (Q:=fun e a' w'=>∃ l',Rel C l'.toS a' w'∧Q e l') hok.1 hQ hr (by simpa using h2)
 | true=>
   refine Aj (Q:=fun e a' w'=>∃ l',Rel C l'.toS a' w'∧Q e l') hm (VB (by simpa using hok.2)) hok.1 (ys:=ys) (fun i j oj hj hij hno=>?_) hQ hr (by simpa using h2)
   have:=h3 rfl i j oj (by simpa using hj) (by omega) hno
   simpa using this
def V8 (next:SL→Prop) (Q:Exit→SL→Prop):Exit→SL→Prop
 | .normal,l=>next l
 | e,l=>Q e l
theorem W1 {a b:Code} (h:WP P C a (V8 (fun l'=>WP P C b Q l') Q) l):WP P C (.seq a b) Q l:=by
 intro hok act w hr
 simp only [codeOk,Bool.and_eq_true] at hok
 refine wp_seq (wp_mono (h hok.1 act w hr) ?_)
 rintro e a' w' ⟨l',hr',hq⟩
 cases e
 case normal=>exact hq hok.2 a' w' hr'
 all_goals exact ⟨l',hr',hq⟩
theorem W7 {x:Operand} {a b:Code} (h:opK l x fun v=>La v fun t=>uT t (WP P C a Q l) (WP P C b Q l)) (hx:okO x=true):WP P C (.cond x a b) Q l:=by
 intro hok act w hr
 simp only [codeOk,Bool.and_eq_true] at hok
 rw [QK] at h
 obtain ⟨t,ht,h12⟩:=uN h
 obtain ⟨β,ok,hr0⟩:=hr
 have hv:=hr0.eval x hx
 rw [ht] at hv
 have hv':=hv.fB
 have he:act.eval x = .bool t:=by
  generalize act.eval x=v at hv'
  cases hv';rfl
 rcases oz h12 with ⟨rfl,h1⟩ | ⟨rfl,h2⟩
 ·exact wp_cond_true he (h1 hok.1 act w ⟨β,ok,hr0⟩)
 ·exact wp_cond_false he (h2 hok.2 act w ⟨β,ok,hr0⟩)
def Dp (id:Nat) (Q:Exit→SL→Prop):Exit→SL→Prop
 | .exit id',l=>match Nat.beq id' id with | true=>Q .normal l | false=>Q (.exit id') l
 | e,l=>Q e l
theorem W3 {id:Nat} {c:Code} (h:WP P C c (Dp id Q) l):WP P C (.block id c) Q l:=by
 intro hok act w hr
 refine wp_block (wp_mono (h hok act w hr) ?_)
 rintro e a' w' ⟨l',hr',hq⟩
 cases e
 case exit id'=>
  show if id'=id then _ else _
  unfold Dp at hq
  simp only at hq
  cases hb:Nat.beq id' id with
  | true=>
    rw [hb] at hq
    rw [if_pos (Nat.eq_of_beq_eq_true hb)]
    exact ⟨l',hr',hq⟩
  | false=>
    rw [hb] at hq
    rw [if_neg (fun e=>by rw [e,Nat.beq_refl] at hb;cases hb)]
    exact ⟨l',hr',hq⟩
 all_goals exact ⟨l',hr',hq⟩
theorem W4 (h:Q .ret l):WP P C .ret Q l:=fun _ _ _ hr=>wp_ret ⟨l,hr,h⟩
theorem W5 (h:Q .normal l):WP P C .skip Q l:=fun _ _ _ hr=>wp_skip ⟨l,hr,h⟩
theorem W6 {id:Nat} (h:Q (.exit id) l):WP P C (.exit id) Q l:=fun _ _ _ hr=>wp_exit ⟨l,hr,h⟩
def isGo:Code→Bool
 | .seq _ _ | .region _ _ _ | .block _ _ | .ret | .skip | .exit _=>true
 | .cond x _ _=>okO x
 | _=>false
def goF (P:Program) (T:Nat→TE) (C:Ctx) (c:Code) (Q:Exit→SL→Prop) (l:SL):Prop:=match c with
 | .seq a b=>WP P C a (V8 (fun l'=>WP P C b Q l') Q) l
 | .region _ ops draw=>Ar P T [] draw ops.toList ops.toList 0 [] l fun l'=>Q .normal l'
 | .cond x a b=>opK l x fun v=>La v fun t=>uT t (WP P C a Q l) (WP P C b Q l)
 | .block id c=>WP P C c (Dp id Q) l
 | .ret=>Q .ret l
 | .skip=>Q .normal l
 | .exit id=>Q (.exit id) l
 | _=>False
theorem WP.go (hT:TOK P T) (hm:P.follows .mixedOrders=true) {c:Code} (hg:isGo c=true) (h:goF P T C c Q l):WP P C c Q l:=by
 cases c with
 | seq a b=>exact W1 h
 | region id ops draw=>exact W2 (ops:=ops.toList) hT hm [] h
 | cond x a b=>exact W7 h hg
 | block id c=>exact W3 h
 | ret=>exact W4 h
 | skip=>exact W5 h
 | exit id=>exact W6 h
 | _=>cases hg
end
abbrev Ren:=List (Nat×Option Nat)
def mO:Ren→Nat→(Option Nat→Prop)→Prop
 | [],_,_=>False
 | (i',o)::m,i,K=>match Nat.beq i' i with | true=>K o | false=>mO m i K
def jh:Ren→Nat→Option (Option Nat)
 | [],_=>none
 | (i',o)::m,i=>match Nat.beq i' i with | true=>some o | false=>jh m i
theorem iO {i:Nat} {K:Option Nat→Prop}:∀ {m:Ren},mO m i K→∃ o,jh m i=some o∧K o
 | [],h=>h.elim
 | (i',o)::m,h=>by
   unfold mO at h
   unfold jh
   cases hb:Nat.beq i' i with
   | true=>rw [hb] at h;exact ⟨o,rfl,h⟩
   | false=>rw [hb] at h;exact iO h
def oldId (o:Option Nat) (id:Nat) (p:Prop):Prop:=match o with | some id'=>bD (Nat.beq id' id) p | none=>False
def vW1 (h:Key→Option Res) (m:Ren) (fz:List Nat) (v v':V) (p:Prop):Prop:=
 match v' with
 | .any=>p
 | .d y=>match v with
   | .d x=>x=y∧p
   | .aj=>D.list []=y∧p
   | .emp=>D.list []=y∧p
   | .sl id sz off len=>bD (inB id fz) (jU (h (id,0)) fun sz2 xs=>bD (Nat.beq sz sz2) (∃ ys,(xs.drop off).take len=ys∧off+len≤xs.length∧D.list ys=y∧p))
   | _=>False
 | .aj=>match v with | .aj=>p | _=>False
 | .emp=>match v with | .aj=>p | .emp=>p | _=>False
 | .ptr id' off'=>match v with
   | .ptr id off=>mO m id' fun o=>oldId o id (off=off'∧p)
   | _=>False
 | .sl id' sz' off' len'=>match v with
   | .sl id sz off len=>mO m id' fun o=>oldId o id (sz=sz'∧off=off'∧len=len'∧p)
   | .aj=>mO m id' fun o=>match o with | none=>off'=0∧len'=0∧p | some _=>False
   | .emp=>mO m id' fun o=>match o with | none=>off'=0∧len'=0∧p | some _=>False
   | _=>False
 | .ael id' sz' i' off'=>match v with
   | .ael id sz i off=>mO m id' fun o=>oldId o id (sz=sz'∧i=i'∧off=off'∧p)
   | _=>False
 | .map id'=>match v with
   | .map id=>mO m id' fun o=>oldId o id p
   | _=>False
 | .rsl id' len'=>match v with
   | .rsl id len=>mO m id' fun o=>oldId o id (len=len'∧p)
   | _=>False
 | _=>False
def vWs (h:Key→Option Res) (m:Ren) (fz:List Nat):List V→List V→Prop→Prop
 | [],[],p=>p
 | v::vs,v'::vs',p=>vW1 h m fz v v' (vWs h m fz vs vs' p)
 | _,_,_=>False
def vW (h:Key→Option Res) (m:Ren) (fz:List Nat) (v v':V) (p:Prop):Prop:=
 match v' with
 | .agg cs'=>match v with
   | .agg cs=>vWs h m fz cs cs' p
   | _=>False
 | .tuple cs'=>match v with
   | .tuple cs=>vWs h m fz cs cs' p
   | _=>False
 | .func fn' f' c'=>match v with
   | .func fn f c=>fn=fn'∧vWs h m fz f f' (vWs h m fz c c' p)
   | _=>False
 | v'=>vW1 h m fz v v' p
def ahH (h:Key→Option Res) (m:Ren) (fz:List Nat) (k':Key) (r':Option Res) (p:Prop):Prop:=
 mO m k'.1 fun o=>match o with
  | none=>match r' with
    | some (.arr sz [])=>k'.2=0∧0<sz∧p
    | _=>False
  | some id=>match r' with
    | some (.cell v')=>xE (h (id,k'.2)) fun v=>vW1 h m fz v v' p
    | some (.arr sz' xs')=>jU (h (id,k'.2)) fun sz xs=>sz=sz'∧xs=xs'∧p
    | some (.map es')=>match h (id,k'.2) with
      | some (.map es)=>es=es'∧p
      | _=>False
    | some (.rows sz' rs' out')=>sJ (h (id,k'.2)) fun sz rs out=>sz=sz'∧rs=rs'∧(match out' with
      | none=>(match out with | none=>p | some _=>False)
      | some (i',a')=>(match out with | none=>False | some (i,a)=>i=i'∧mO m a' fun o=>oldId o a p))
    | none=>False
def acK (l:SL) (m:Ren) (fz:List Nat):List (Nat×V)→Prop→Prop
 | [],p=>p
 | (t,v')::env,p=>zT l.env t fun v=>vW (kL l.hp) m fz v v' (acK l m fz env p)
def hpW (l:SL) (m:Ren) (fz:List Nat):List (Key×Option Res)→Prop→Prop
 | [],p=>p
 | (k',r')::hp,p=>ahH (kL l.hp) m fz k' r' (hpW l m fz hp p)
def zH (fz:List Nat):Ren→Bool
 | []=>true
 | (_,none)::m=>zH fz m
 | (_,some i)::m=>!inB i fz&&m.all (fun e=>match e.2 with | some j=>!Nat.beq i j | none=>true)&&zH fz m
def acE (h:Key→Option Res):List Nat→Prop→Prop
 | [],p=>p
 | i::is,p=>jU (h (i,0)) fun _ _=>acE h is p
def RS (m:Ren):List Nat→Prop→Prop
 | [],p=>p
 | i::is,p=>mO m i fun o=>oldId o i (RS m is p)
theorem Dk {m:Ren}:∀ {is:List Nat} {p:Prop},RS m is p→(∀ i∈is,jh m i=some (some i))∧p
 | [],p,h=>⟨by simp,h⟩
 | i::is,p,h=>by
   unfold RS at h
   obtain ⟨o,h1,h2⟩:=iO h
   unfold oldId at h2
   split at h2
   ·obtain ⟨h3,h4⟩:=aF h2
    obtain ⟨h5,h6⟩:=Dk h4
    refine ⟨fun j hj=>?_,h6⟩
    rcases List.mem_cons.1 hj with rfl | hj
    ·rw [h1,Nat.eq_of_beq_eq_true h3]
    ·exact h5 j hj
   ·exact h2.elim
def Qh (U:List Nat) (m:Ren) (fz:List Nat) (l l':SL):Prop:=
 RS m U <| bD (zH fz m) (acE (kL l.hp) fz (l'.used=m.map (·.1)∧acK l m fz l'.env (hpW l m fz l'.hp True)))
theorem MP {i:Nat}:∀ {l:List Nat},inB i l=true→i∈l
 | [],h=>by cases h
 | x::xs,h=>by
   unfold inB at h
   split at h
   ·rename_i hx;rw [Nat.eq_of_beq_eq_true hx];exact List.mem_cons_self
   ·exact List.mem_cons_of_mem _ (MP h)
theorem bP {i:Nat} {o:Option Nat}:∀ {m:Ren},jh m i=some o→(i,o)∈m
 | [],h=>by cases h
 | (i',o')::m,h=>by
   unfold jh at h
   cases hb:Nat.beq i' i with
   | true=>rw [hb] at h;simp at h;rw [Nat.eq_of_beq_eq_true hb,h];exact List.mem_cons_self
   | false=>rw [hb] at h;exact List.mem_cons_of_mem _ (bP h)
theorem rW {fz:List Nat}:∀ {m:Ren},zH fz m=true→∀ i j k,(i,some k)∈m→(j,some k)∈m→jh m i=some (some k)→jh m j=some (some k)→i=j
 | [],_,i,j,k,hi,_,_,_=>by cases hi
 | (a,none)::m,h,i,j,k,hi,hj,fi,fj=>by
   have h':zH fz m=true:=h
   have ci:Nat.beq a i=false:=by
    unfold jh at fi
    cases hb:Nat.beq a i with
    | true=>rw [hb] at fi;cases fi
    | false=>rfl
   have cj:Nat.beq a j=false:=by
    unfold jh at fj
    cases hb:Nat.beq a j with
    | true=>rw [hb] at fj;cases fj
    | false=>rfl
   unfold jh at fi fj
   rw [ci] at fi
   rw [cj] at fj
   exact rW h' i j k (bP fi) (bP fj) fi fj
 | (a,some b)::m,h,i,j,k,hi,hj,fi,fj=>by
   unfold zH at h
   simp only [Bool.and_eq_true] at h
   obtain ⟨⟨h1,h2⟩,h3⟩:=h
   have hno:∀ x,(x,some b)∉m:=fun x hx=>by
    have:=List.all_eq_true.1 h2 _ hx
    simp [Nat.beq_refl] at this
   unfold jh at fi fj
   cases ci:Nat.beq a i with
   | true=>
     rw [ci] at fi
     simp at fi
     subst fi
     cases cj:Nat.beq a j with
     | true=>rw [← Nat.eq_of_beq_eq_true ci,← Nat.eq_of_beq_eq_true cj]
     | false=>rw [cj] at fj;exact absurd (bP fj) (hno j)
   | false=>
     rw [ci] at fi
     cases cj:Nat.beq a j with
     | true=>
       rw [cj] at fj
       simp at fj
       subst fj
       exact absurd (bP fi) (hno i)
     | false=>
       rw [cj] at fj
       exact rW h3 i j k (bP fi) (bP fj) fi fj
theorem BR {fz:List Nat}:∀ {m:Ren},zH fz m=true→∀ i k,(i,some k)∈m→k∉fz
 | [],_,i,k,hi=>by cases hi
 | (a,none)::m,h,i,k,hi=>by
   rcases List.mem_cons.1 hi with e | hi
   ·cases e
   ·exact BR (m:=m) h i k hi
 | (a,some b)::m,h,i,k,hi=>by
   unfold zH at h
   simp only [Bool.and_eq_true] at h
   rcases List.mem_cons.1 hi with e | hi
   ·cases e
    have:=h.1.1
    exact yS (by simpa using this)
   ·exact BR (m:=m) h.2 i k hi
theorem GZ {h:Key→Option Res}:∀ {fz:List Nat} {p:Prop},acE h fz p→(∀ i∈fz,∃ sz xs,h (i,0)=some (.arr sz xs))∧p
 | [],p,hp=>⟨by simp,hp⟩
 | i::fz,p,hp=>by
   unfold acE at hp
   obtain ⟨sz,xs,h1,h2⟩:=dM hp
   obtain ⟨h3,h4⟩:=GZ h2
   exact ⟨fun j hj=>by
    rcases List.mem_cons.1 hj with rfl | hj
    ·exact ⟨sz,xs,h1⟩
    ·exact h3 j hj,h4⟩
section
variable {C:Ctx} {β:Nat→Value} {ok:Nat→Prop} {l:SL} {a:Act} {w:World} {m:Ren} {fz:List Nat}
def jR (β:Nat→Value) (m:Ren) (i:Nat):Value:=match jh m i with | some (some k)=>β k | _ => .slice none 0 0
def okZ (β:Nat→Value) (ok:Nat→Prop) (fz:List Nat) (b:Nat):Prop:=ok b∨∃ i∈fz,aN (β i)=some b
theorem yA (h:RelB C β ok l.toS a w) {v v':V} {p:Prop} (hw:vW1 (kL l.hp) m fz v v' p) :
  p∧∀ val,RdV β l.toS.used ok w val v→RdV (jR β m) (fun i=>i∈m.map (·.1)) (okZ β ok fz) w val v':=by
 have hokz:∀ b,ok b→okZ β ok fz b:=fun b hb => .inl hb
 have look:∀ {i id:Nat} {q:Prop},(mO m i fun o=>oldId o id q)→(i∈m.map (·.1)∧jR β m i=β id)∧q:=fun {i id q} h=>by
  obtain ⟨o,h1,h2⟩:=iO h
  unfold oldId at h2
  split at h2
  ·obtain ⟨h3,h4⟩:=aF h2
   refine ⟨⟨List.mem_map.2 ⟨_,bP h1,rfl⟩,?_⟩,h4⟩
   unfold jR;rw [h1,← Nat.eq_of_beq_eq_true h3]
  ·exact h2.elim
 unfold vW1 at hw
 split at hw
 ·exact ⟨hw,fun val _ => .any _⟩
 ·split at hw
  ·obtain ⟨rfl,hp⟩:=hw
   exact ⟨hp,fun val hv => .d _ _ (hv.fB.mono (fun _ _=>rfl) hokz)⟩
  ·obtain ⟨rfl,hp⟩:=hw
   exact ⟨hp,fun val hv=>by cases hv;exact .d _ _ (.lF _)⟩
  ·obtain ⟨rfl,hp⟩:=hw
   exact ⟨hp,fun val hv=>by cases hv;exact .d _ _ (.lF _)⟩
  ·rename_i id sz off len
   obtain ⟨hf,hw⟩:=aF hw
   obtain ⟨sz2,xs,hh,hw⟩:=dM hw
   obtain ⟨hs,ys,rfl,hl,rfl,hp⟩:=aF hw
   have e:sz=sz2:=Nat.eq_of_beq_eq_true hs
   subst e
   exact ⟨hp,fun val hv => .d _ _ (RdD.CP hv (h.heap _ _ hh).2.2 hl (fun b hb => .inr ⟨id,MP hf,hb⟩) hokz)⟩
  ·exact hw.elim
 ·split at hw
  ·exact ⟨hw,fun val hv=>by cases hv;exact .aj⟩
  ·exact hw.elim
 ·split at hw
  ·exact ⟨hw,fun val hv=>by cases hv;exact .emp _⟩
  ·exact ⟨hw,fun val hv=>by cases hv;exact .emp _⟩
  ·exact hw.elim
 ·split at hw
  ·obtain ⟨⟨h1,h2⟩,rfl,hp⟩:=look hw
   exact ⟨hp,fun val hv=>by
    cases hv with
    | ptr _ _ b q1 q2=>exact .ptr _ _ b h1 (h2.trans q2)⟩
  ·exact hw.elim
 ·split at hw
  ·obtain ⟨⟨h1,h2⟩,rfl,rfl,rfl,hp⟩:=look hw
   exact ⟨hp,fun val hv=>by
    cases hv with
    | sl _ _ _ _ n cap a0 a1 q1 q2 q3 q4 q5=>exact .sl _ _ _ _ n cap a0 a1 h1 (h2.trans q2) q3 q4 q5⟩
  ·obtain ⟨o,h1,h2⟩:=iO hw
   split at h2
   ·obtain ⟨rfl,rfl,hp⟩:=h2
    refine ⟨hp,fun val hv=>?_⟩
    cases hv
    exact RdV.sl _ _ 0 0 0 0 none none (List.mem_map.2 ⟨_,bP h1,rfl⟩) (by unfold jR;rw [h1]) (by omega) (by simp) (fun hc=>by omega)
   ·exact h2.elim
  ·obtain ⟨o,h1,h2⟩:=iO hw
   split at h2
   ·obtain ⟨rfl,rfl,hp⟩:=h2
    refine ⟨hp,fun val hv=>?_⟩
    cases hv
    exact RdV.sl _ _ 0 0 0 0 none _ (List.mem_map.2 ⟨_,bP h1,rfl⟩) (by unfold jR;rw [h1]) (by omega) (by simp) (fun hc=>by omega)
   ·exact h2.elim
  ·exact hw.elim
 ·split at hw
  ·obtain ⟨⟨h1,h2⟩,rfl,rfl,rfl,hp⟩:=look hw
   exact ⟨hp,fun val hv=>by
    cases hv with
    | ael _ _ _ _ b o n cap q1 q2=>exact .ael _ _ _ _ b o n cap h1 (h2.trans q2)⟩
  ·exact hw.elim
 ·split at hw
  ·obtain ⟨⟨h1,h2⟩,hp⟩:=look hw
   exact ⟨hp,fun val hv=>by
    cases hv with
    | map _ r q1 q2=>exact .map _ r h1 (h2.trans q2)⟩
  ·exact hw.elim
 ·split at hw
  ·obtain ⟨⟨h1,h2⟩,rfl,hp⟩:=look hw
   exact ⟨hp,fun val hv=>by
    cases hv with
    | rsl _ _ cap a q1 q2 q3=>exact .rsl _ _ cap a h1 (h2.trans q2) q3⟩
  ·exact hw.elim
 ·exact hw.elim
theorem nY (h:RelB C β ok l.toS a w):∀ {vs vs':List V} {p:Prop},vWs (kL l.hp) m fz vs vs' p →
  p∧vs.length=vs'.length∧∀ (i:Nat) val v v',vs[i]?=some v→vs'[i]?=some v'→RdV β l.toS.used ok w val v→RdV (jR β m) (fun i=>i∈m.map (·.1)) (okZ β ok fz) w val v'
 | [],[],p,hw=>⟨hw,rfl,fun i val v v' hv=>by simp at hv⟩
 | v::vs,v'::vs',p,hw=>by
   unfold vWs at hw
   obtain ⟨h1,h2⟩:=yA h hw
   obtain ⟨h3,h4,h5⟩:=nY h h1
   refine ⟨h3,by simp [h4],fun i val u u' hu hu' hr=>?_⟩
   cases i with
   | zero=>simp at hu hu';subst hu;subst hu';exact h2 val hr
   | succ i=>exact h5 i val u u' (by simpa using hu) (by simpa using hu') hr
 | [],_::_,p,hw=>by unfold vWs at hw;exact hw.elim
 | _::_,[],p,hw=>by unfold vWs at hw;exact hw.elim
theorem VW (h:RelB C β ok l.toS a w) {v v':V} {p:Prop} (hw:vW (kL l.hp) m fz v v' p) :
  p∧∀ val,RdV β l.toS.used ok w val v→RdV (jR β m) (fun i=>i∈m.map (·.1)) (okZ β ok fz) w val v':=by
 have pick:∀ (us:Array Value) (cs cs':List V),us.size=cs.length→cs.length=cs'.length→(∀ (i:Nat) v c,us[i]?=some v→cs[i]?=some c→RdV β l.toS.used ok w v c) →
   (∀ (i:Nat) val v v',cs[i]?=some v→cs'[i]?=some v'→RdV β l.toS.used ok w val v→RdV (jR β m) (fun i=>i∈m.map (·.1)) (okZ β ok fz) w val v') →
   ∀ (i:Nat) v c,us[i]?=some v→cs'[i]?=some c→RdV (jR β m) (fun i=>i∈m.map (·.1)) (okZ β ok fz) w v c:=fun us cs cs' e1 e2 hr hs i v c hv hc=>by
  have hi:i<cs.length:=by rw [← e1];exact (Array.getElem?_eq_some_iff.1 hv).1
  have hcs:cs[i]?=some cs[i]:=by simp
  exact hs i v _ c hcs hc (hr i v _ hv hcs)
 unfold vW at hw
 split at hw
 ·split at hw
  ·obtain ⟨h1,h2,h3⟩:=nY h hw
   refine ⟨h1,fun val hv=>?_⟩
   cases hv with
   | agg us _ q1 q2 q3=>exact .agg us _ (q1.trans h2) (pick us _ _ q1 h2 q2 h3) q3
  ·exact hw.elim
 ·split at hw
  ·obtain ⟨h1,h2,h3⟩:=nY h hw
   refine ⟨h1,fun val hv=>?_⟩
   cases hv with
   | tuple us _ q1 q2=>exact .tuple us _ (q1.trans h2) (pick us _ _ q1 h2 q2 h3)
  ·exact hw.elim
 ·split at hw
  ·obtain ⟨rfl,hw⟩:=hw
   obtain ⟨h1,h2,h3⟩:=nY h hw
   obtain ⟨g1,g2,g3⟩:=nY h h1
   refine ⟨g1,fun val hv=>?_⟩
   cases hv with
   | func _ fs cs _ _ q1 q2 q3 q4=>exact .func _ fs cs _ _ (q1.trans h2) (q2.trans g2) (pick fs _ _ q1 h2 q3 h3) (pick cs _ _ q2 g2 q4 g3)
  ·exact hw.elim
 ·exact yA h hw
theorem Ec (h:RelB C β ok l.toS a w):∀ {env:List (Nat×V)} {p:Prop},acK l m fz env p→p∧∀ t,RdV (jR β m) (fun i=>i∈m.map (·.1)) (okZ β ok fz) w (a.tmps.getD t undef) (lJ env t)
 | [],p,hw=>⟨hw,fun t => .any _⟩
 | (t0,v')::env,p,hw=>by
   unfold acK at hw
   rw [kW] at hw
   obtain ⟨h1,h2⟩:=VW h hw
   obtain ⟨h3,h4⟩:=Ec h h1
   refine ⟨h3,fun t=>?_⟩
   unfold lJ
   cases hb:Nat.beq t0 t with
   | true=>rw [← Nat.eq_of_beq_eq_true hb];exact h2 _ (h.env t0)
   | false=>exact h4 t
theorem Blk.same {β β':Nat→Value} {w:World} {k k':Key} {r r':Res} (hβ:β' k'.1=β k.1) (hr:(∀ sz rs out,r' ≠ .rows sz rs out)∨∃ sz rs out sz' out',r = .rows sz rs out∧r' = .rows sz' rs out'∧∀ j,jW out' j=jW out j) {b:Nat} (h:Blk β' w k' r' b):Blk β w k r b:=by
 rcases h with h | h
 ·exact .inl (hβ ▸ h)
 ·rcases hr with hr | ⟨sz,rs,out,sz',out',rfl,rfl,he⟩
  ·cases r' with
   | rows sz rs out=>exact absurd rfl (hr sz rs out)
   | cell _=>exact h.elim
   | arr _ _=>exact h.elim
   | map _=>exact h.elim
  ·obtain ⟨a,cap,len,i,u,h1,h2,h3,h4,h5⟩:=h
   exact .inr ⟨a,cap,len,i,u,hβ ▸ h1,h2,(he i) ▸ h3,h4,h5⟩
theorem Ox (h:RelB C β ok l.toS a w) {k':Key} {r':Option Res} {p:Prop} (hw:ahH (kL l.hp) m fz k' r' p) :
  p∧k'.1∈m.map (·.1)∧∃ r,r'=some r∧Own (jR β m) (fun i=>i∈m.map (·.1)) (okZ β ok fz) w k' r ∧
   ((jh m k'.1=some none∧∀ b,¬ Blk (jR β m) w k' r b)∨∃ id r0,jh m k'.1=some (some id)∧kL l.hp (id,k'.2)=some r0∧(∀ b,Blk (jR β m) w k' r b→Blk β w (id,k'.2) r0 b)∧(∀ v,r = .cell v↔∃ v0,r0 = .cell v0∧r = .cell v)):=by
 have hokz:∀ b,ok b→okZ β ok fz b:=fun b hb => .inl hb
 unfold ahH at hw
 obtain ⟨o,h1,h2⟩:=iO hw
 have hmem:k'.1∈m.map (·.1):=List.mem_map.2 ⟨_,bP h1,rfl⟩
 split at h2
 ·split at h2
  ·obtain ⟨h3,h4,h5⟩:=h2
   have hβ:jR β m k'.1 = .slice none 0 0:=by unfold jR;rw [h1]
   exact ⟨h5,hmem,_,rfl,⟨h3,none,0,hβ,by simp,by simp [maxLen],h4,by simp,fun hc=>by omega⟩,.inl ⟨h1,fun b hb=>by rcases hb with hb | hb;(· rw [hβ] at hb;cases hb);exact hb⟩⟩
  ·exact h2.elim
 ·rename_i id
  have hβ:jR β m k'.1=β id:=by unfold jR;rw [h1]
  split at h2
  ·obtain ⟨v,h3,h4⟩:=pq h2
   obtain ⟨h5,h6⟩:=yA h h4
   obtain ⟨_,b,c,T,v0,e1,e2,e3,e4,e5⟩:=h.heap _ _ h3
   exact ⟨h5,hmem,_,rfl,⟨b,c,T,v0,hβ.trans e1,e2,e3,e4,h6 v0 e5⟩,.inr ⟨id,_,h1,h3,fun b hb=>Blk.same hβ (.inl fun _ _ _ e=>by cases e) hb,fun v1=>⟨fun e=>⟨v,rfl,e⟩,fun ⟨_,_,e⟩=>e⟩⟩⟩
  ·obtain ⟨sz,xs,h3,rfl,rfl,h4⟩:=dM h2
   obtain ⟨_,hk0,a0,cap,e1,e2,e3,e4,e5,e6⟩:=h.heap _ _ h3
   refine ⟨h4,hmem,_,rfl,⟨hk0,a0,cap,hβ.trans e1,e2,e3,e4,e5,fun hc=>?_⟩,.inr ⟨id,_,h1,h3,fun b hb=>Blk.same hβ (.inl fun _ _ _ e=>by cases e) hb,fun v1=>⟨(fun e=>by cases e),(fun ⟨_,e,_⟩=>by cases e)⟩⟩⟩
   obtain ⟨b,o,cur,T,f1,f2,f3,f4⟩:=e6 hc
   refine ⟨b,o,cur,T,f1,f2,f3,fun i x j c hx hc'=>?_⟩
   obtain ⟨u0,g1,g2,g3⟩:=f4 i x j c hx hc'
   exact ⟨u0,g1,g2.mono (fun _ _=>rfl) hokz,g3⟩
  ·split at h2
   ·rename_i es h3
    obtain ⟨rfl,h4⟩:=h2
    obtain ⟨_,hk0,r,ents,clock,e1,e2,e3,e4,e5⟩:=h.heap _ _ h3
    exact ⟨h4,hmem,_,rfl,⟨hk0,r,ents,clock,hβ.trans e1,e2,e3,fun i mm e hm he=>⟨(e4 i mm e hm he).1.mono (fun _ _=>rfl) hokz,(e4 i mm e hm he).2.mono (fun _ _=>rfl) hokz⟩,e5⟩,
     .inr ⟨id,_,h1,h3,fun b hb=>Blk.same hβ (.inl fun _ _ _ e=>by cases e) hb,fun v1=>⟨(fun e=>by cases e),(fun ⟨_,e,_⟩=>by cases e)⟩⟩⟩
   ·exact h2.elim
  ·rename_i sz' rs' out'
   obtain ⟨sz,rs,out,h3,rfl,rfl,h4⟩:=kJ h2
   obtain ⟨_,hk0,⟨a0,cap,e1,e2,e3,e4,e5⟩,hout⟩:=h.heap _ _ h3
   have hq:p∧(∀ j,jW out' j=jW out j)∧(∀ j a',out'=some (j,a')→a'∈m.map (·.1)∧∃ a,out=some (j,a)∧jR β m a'=β a):=by
    split at h4
    ·split at h4
     ·exact ⟨h4,fun _=>rfl,fun j a' e=>by cases e⟩
     ·exact h4.elim
    ·split at h4
     ·exact h4.elim
     ·rename_i i' a' i a
      obtain ⟨rfl,h5⟩:=h4
      obtain ⟨o2,g1,g2⟩:=iO h5
      unfold oldId at g2
      split at g2
      ·obtain ⟨g3,g4⟩:=aF g2
       refine ⟨g4,fun _=>rfl,fun j x e=>?_⟩
       cases e
       refine ⟨List.mem_map.2 ⟨_,bP g1,rfl⟩,a,rfl,?_⟩
       unfold jR;rw [g1,← Nat.eq_of_beq_eq_true g3]
      ·exact g2.elim
   obtain ⟨hp,hio,hre⟩:=hq
   refine ⟨hp,hmem,_,rfl,⟨hk0,⟨a0,cap,hβ.trans e1,e2,e3,e4,fun hc=>?_⟩,fun j a' e=>(hre j a' e).1⟩,.inr ⟨id,_,h1,h3,fun b hb=>Blk.same hβ (.inr ⟨_,_,_,_,_,rfl,rfl,hio⟩) hb,fun v1=>⟨(fun e=>by cases e),(fun ⟨_,e,_⟩=>by cases e)⟩⟩⟩
   obtain ⟨b,o,cur,T,f1,f2,f3,f4,f5⟩:=e5 hc
   refine ⟨b,o,cur,T,f1,f2,f3,fun i xs hx=>?_,fun i j u u' c hi hj hio1 hio2=>f5 i j u u' c hi hj ((hio i) ▸ hio1) ((hio j) ▸ hio2)⟩
   obtain ⟨u0,g1,g2,g3,g4⟩:=f4 i xs hx
   refine ⟨u0,g1,g2,fun hi=>⟨(g3 ((hio i) ▸ hi)).1.mono (fun _ _=>rfl) hokz (fun _ _=>rfl),(g3 ((hio i) ▸ hi)).2⟩,fun a' e=>?_⟩
   obtain ⟨_,a,e1,e2⟩:=hre i a' e
   rw [e2];exact g4 a e1
  ·exact h2.elim
theorem GI (h:RelB C β ok l.toS a w):∀ {hp:List (Key×Option Res)} {p:Prop},hpW l m fz hp p→p∧∀ k r,kL hp k=some r→k.1∈m.map (·.1)∧Own (jR β m) (fun i=>i∈m.map (·.1)) (okZ β ok fz) w k r ∧
   ((jh m k.1=some none∧∀ b,¬ Blk (jR β m) w k r b)∨∃ id r0,jh m k.1=some (some id)∧kL l.hp (id,k.2)=some r0∧(∀ b,Blk (jR β m) w k r b→Blk β w (id,k.2) r0 b)∧(∀ v,r = .cell v↔∃ v0,r0 = .cell v0∧r = .cell v))
 | [],p,hw=>⟨hw,fun k r hr=>by cases hr⟩
 | (k0,r0)::hp,p,hw=>by
   unfold hpW at hw
   obtain ⟨h1,h2,r,h3,h4,h5⟩:=Ox h hw
   obtain ⟨h6,h7⟩:=GI h h1
   refine ⟨h6,fun k r' hr=>?_⟩
   unfold kL at hr
   cases hb:O8 k0 k with
   | true=>
     rw [hb] at hr
     have e:=xq.1 hb
     subst e
     simp only at hr
     rw [h3] at hr
     cases hr
     exact ⟨h2,h4,h5⟩
   | false=>rw [hb] at hr;exact h7 k r' hr
theorem RelB.weak {l l':SL} (h:RelB C β ok l.toS a w) (hw:Qh C.u0 m fz l l'):RelB C (jR β m) (okZ β ok fz) l'.toS a w:=by
 obtain ⟨h0,hw⟩:=Dk hw
 obtain ⟨h1,hw⟩:=aF hw
 obtain ⟨h2,hu,hw⟩:=GZ hw
 obtain ⟨hw,h3⟩:=Ec h hw
 obtain ⟨_,h4⟩:=GI h hw
 have hused:l'.toS.used=fun i=>i∈m.map (·.1):=by funext i;show (i∈l'.used)=_;rw [hu]
 have hren:∀ {i id:Nat},jh m i=some (some id)→jR β m i=β id:=fun h=>by unfold jR;rw [h]
 refine ⟨h.defers,h.jg,fun t=>?_,fun k r hr=>?_,fun k r b hr hb=>?_,fun k k' r r' b hr hr' hb hb'=>?_,fun b hb=>?_,fun b hb => .inl (h.ok0 b hb),fun b hb=>?_,h.frame,fun i hi=>?_,h.glob.mono (fun _ _=>rfl) fun _ h => .inl h⟩
 ·rw [hused];exact h3 t
 ·rw [hused];exact ⟨(h4 k r hr).1,(h4 k r hr).2.1⟩
 ·obtain ⟨_,_,⟨_,hn⟩ | ⟨id,r0,g1,g2,g0,g3⟩⟩:=h4 k r hr
  ·exact absurd hb (hn b)
  ·replace hb:=g0 b hb
   obtain ⟨s1,s2,s3⟩:=h.sep (id,k.2) r0 b g2 hb
   refine ⟨fun hc=>?_,s2,fun hlt=>?_⟩
   ·rcases hc with hc | ⟨i,hi,hc⟩
    ·exact s1 hc
    ·obtain ⟨sz,xs,hi2⟩:=h2 i hi
     have:=h.inj (id,k.2) (i,0) r0 _ b g2 hi2 hb (.inl hc)
     simp only at this
     subst this
     exact BR h1 k.1 id (bP g1) hi
   ·have:=s3 hlt
    cases r with
    | cell v=>
      obtain ⟨v0,e,_⟩:=(g3 v).1 rfl
      subst e
      have hid:k.1=id:=rW h1 k.1 id id (bP g1) (bP (h0 id this.1)) g1 (h0 id this.1)
      exact ⟨by rw [hid];exact this.1,this.2⟩
    | arr sz xs=>
      cases r0 with
      | cell v0=>exact absurd rfl (fun (_:True=True)=>by
        obtain ⟨hh,ho⟩:=h.heap _ _ g2
        obtain ⟨_,b1,c1,T1,v1,e1,_⟩:=(⟨hh,ho⟩:l.toS.used (id,k.2).1∧Own β l.toS.used ok w (id,k.2) (.cell v0))
        have hown:=(h4 k _ hr).2.1
        obtain ⟨_,a0,cap,f1,_⟩:=hown
        rw [hren g1] at f1
        simp only at e1
        rw [e1] at f1
        cases f1)
      | arr _ _=>exact this
      | map _=>exact this
      | rows _ _ _=>exact this
    | rows sz rs out=>
      cases r0 with
      | cell v0=>exact absurd rfl (fun (_:True=True)=>by
        obtain ⟨_,b1,c1,T1,v1,e1,_⟩:=h.heap _ _ g2
        have hown:=(h4 k _ hr).2.1
        obtain ⟨_,⟨a0,cap,f1,_⟩,_⟩:=hown
        rw [hren g1] at f1
        simp only at e1
        rw [e1] at f1
        cases f1)
      | arr _ _=>exact this
      | map _=>exact this
      | rows _ _ _=>exact this
    | map es=>
      cases r0 with
      | cell v0=>exact absurd rfl (fun (_:True=True)=>by
        obtain ⟨_,b1,c1,T1,v1,e1,_⟩:=h.heap _ _ g2
        have hown:=(h4 k _ hr).2.1
        obtain ⟨_,rr,ents,clock,f1,_⟩:=hown
        rw [hren g1] at f1
        simp only at e1
        rw [e1] at f1
        cases f1)
      | arr _ _=>exact this
      | map _=>exact this
      | rows _ _ _=>exact this
 ·obtain ⟨_,_,⟨_,hn⟩ | ⟨id,r0,g1,g2,g0,g3⟩⟩:=h4 k r hr
  ·exact absurd hb (hn b)
  ·obtain ⟨_,_,⟨_,hn'⟩ | ⟨id',r0',g1',g2',g0',g3'⟩⟩:=h4 k' r' hr'
   ·exact absurd hb' (hn' b)
   ·have:=h.inj (id,k.2) (id',k'.2) r0 r0' b g2 g2' (g0 b hb) (g0' b hb')
    simp only at this
    subst this
    exact rW h1 k.1 k'.1 id (bP g1) (bP g1') g1 g1'
 ·rcases hb with hb | ⟨i,hi,hb⟩
  ·exact h.okb b hb
  ·obtain ⟨sz,xs,hi2⟩:=h2 i hi
   exact (h.sep (i,0) _ b hi2 (.inl hb)).2.1
 ·rcases hb with hb | ⟨i,hi,hb⟩
  ·exact h.okn b hb
  ·obtain ⟨sz,xs,hi2⟩:=h2 i hi
   have:=(h.sep (i,0) _ b hi2 (.inl hb)).2.2
   rcases Nat.lt_or_ge b C.w0.heap.size with hlt | hge
   ·exact .inr (.inr (this hlt))
   ·exact .inr (.inl hge)
 ·have:=h0 i hi
  exact ⟨by rw [hused];exact List.mem_map.2 ⟨_,bP this,rfl⟩,(hren this).trans (h.keep i hi).2⟩
theorem Rel.weak {l l':SL} (h:Rel C l.toS a w) (hw:Qh C.u0 m fz l l'):Rel C l'.toS a w:=by
 obtain ⟨β,ok,h⟩:=h
 exact ⟨_,_,h.weak hw⟩
end
section
variable {P:Program} {T:Nat→TE} {C:Ctx} {Q:Exit→SL→Prop} {l:SL}
theorem WP.loop {α:Type} (st:α→SL) (I:α→Prop) (μ:α→Nat) {c:Code} (x0:α) (m0:Ren) (fz0:List Nat) (hw:Qh C.u0 m0 fz0 l (st x0)) (h0:I x0)
  (round:∀ x,I x→WP P C c (V8 (fun l'=>∃ y m fz,Qh C.u0 m fz l' (st y)∧I y∧μ y<μ x) Q) (st x)):WP P C (.loop c) Q l:=by
 intro hok act w hr
 have hr0:=hr.weak hw
 intro b k cs
 have key:∀ n x,μ x=n→I x→∀ act w,Rel C (st x).toS act w →
   ∃ e a' w',(∃ l',Rel C l'.toS a' w'∧Q e l')∧Arrives P (lone (b.at act (.code c :: .inLoop c::k)) cs w) b k cs e a' w':=by
  intro n
  induction n using Nat.strongRecOn with
  | _ n ih=>
    intro x hn hI act w hr
    obtain ⟨e,a₁,w₁,⟨l',hr',hq⟩,harr⟩:=round x hI hok act w hr b (.inLoop c::k) cs
    cases e with
    | normal=>
      obtain ⟨y,m,fz,hw',hI',hlt⟩:=hq
      obtain ⟨e₂,a₂,w₂,hq₂,harr₂⟩:=ih (μ y) (hn ▸ hlt) y rfl hI' a₁ w₁ (hr'.weak hw')
      exact ⟨e₂,a₂,w₂,hq₂,.of_steps (Steps.trans harr (.one step_inLoop)) harr₂⟩
    | exit id=>exact ⟨_,a₁,w₁,⟨l',hr',hq⟩,.pass (x := .inLoop c) rfl (fun _ _ => .inl (by simp)) harr⟩
    | goto l=>exact ⟨_,a₁,w₁,⟨l',hr',hq⟩,.pass (x := .inLoop c) rfl (fun _ _ => .inl (by simp)) harr⟩
    | ret=>exact ⟨_,a₁,w₁,⟨l',hr',hq⟩,.pass (x := .inLoop c) rfl (fun _ _ => .inl (by simp)) harr⟩
    | panic ch=>exact ⟨_,a₁,w₁,⟨l',hr',hq⟩,.pass (x := .inLoop c) rfl (fun _ _ => .inl (by simp)) harr⟩
    | outgrown=>exact ⟨_,a₁,w₁,⟨l',hr',hq⟩,.pass (x := .inLoop c) rfl (fun _ _ => .inl (by simp)) harr⟩
 obtain ⟨e,a',w',hq,harr⟩:=key _ x0 rfl h0 act w hr0
 exact ⟨e,a',w',hq,.of_steps (.one step_loop) harr⟩
def mF (T:Nat→TE) (l:SL):List ResultVar→(List D→Prop)→Prop
 | [],K=>K []
 | .tmp t::rs,K=>zT l.env t fun v=>abg v (kL l.hp) fun d _=>mF T l rs fun ds=>K (d::ds)
 | .cell x t::rs,K=>zT l.env x fun v=>D8 (T t) [v] (kL l.hp) fun y _ _ _=>abg y (kL l.hp) fun d _=>mF T l rs fun ds=>K (d::ds)
def ano (T:Nat→TE) (rs:List ResultVar) (ds:List D):Exit→SL→Prop
 | .ret,l=>mF T l rs fun ds'=>ds'=ds
 | .normal,l=>mF T l rs fun ds'=>ds'=ds
 | _,_=>False
theorem Ls {t:Nat} {vx v:Value} {w:World} (h:(Instr.loadAt t vx).run P w = .ok v w):(do loadVar t (← asAddr vx)).run P w = .ok v w:=by
 cases vx with
 | pointer a=>cases a with
   | none=>simp [Instr.loadAt,Instr.sureAddr] at h
   | some a=>simpa [Instr.loadAt,Instr.sureAddr,asAddr] using h
 | _=>simp [Instr.loadAt,Instr.sureAddr] at h
def yI (tmps:Array Value):ResultVar→Sem Value
 | .tmp t=>pure (tmps.getD t undef)
 | .cell a t=>do loadVar t (← asAddr (tmps.getD a undef))
theorem uZ (fn:Func) (tmps:Array Value):results fn tmps=(do let vs ← fn.results.mapM (yI tmps);pure (if h:vs.size=1 then vs[0] else .tuple vs)):=by
 unfold results
 congr 1
theorem nK (hT:TOK P T) {β:Nat→Value} {ok:Nat→Prop} {a:Act} {w:World} (h:RelB C β ok l.toS a w) {ok':Nat→Prop} (hok:∀ b,ok b→ok' b) (hown:∀ k r b,kL l.hp k=some r→Blk β w k r b→ok' b) :
  ∀ {rs:List ResultVar} {K:List D→Prop},mF T l rs K→∃ ds,K ds∧ds.length=rs.length∧∃ vs:List Value,
    (rs.mapM (yI a.tmps)).run P w = .ok vs w∧vs.length=rs.length ∧
    ∀ (i:Nat) v d,vs[i]?=some v→ds[i]?=some d→RdD ok' w v d
 | [],K,hK=>⟨[],hK,rfl,[],by simp,rfl,fun i v d hv=>by simp at hv⟩
 | .tmp t::rs,K,hK=>by
   unfold mF at hK
   rw [kW] at hK
   obtain ⟨d,rd,h1,h2⟩:=zn hK
   obtain ⟨ds,h3,h4,vs,h5,h6,h7⟩:=nK hT h hok hown h1
   have hd:RdD ok' w (a.tmps.getD t undef) d:=h2 β l.toS.used ok ok' w _ (h.env t) (fun k hk r hr=>⟨(h.heap k r hr).2,fun b hb=>hown k r b hr hb⟩) hok
   refine ⟨d::ds,h3,by simp [h4],a.tmps.getD t undef::vs,?_,by simp [h6],fun i v d' hv hd'=>?_⟩
   ·rw [List.mapM_cons]
    simp only [yI,Sem.run_bind,Sem.run_pure,Result.andThen_ok,h5]
   ·cases i with
    | zero=>simp at hv hd';subst hd';rw [← hv];simpa using hd
    | succ i=>exact h7 i v d' (by simpa using hv) (by simpa using hd')
 | .cell x t::rs,K,hK=>by
   unfold mF at hK
   rw [kW] at hK
   obtain ⟨v0,y,rd,e0,hK1,hrun⟩:=D7 hT hK
   simp only [List.cons.injEq,and_true] at e0
   obtain ⟨d,rd',h1,h2⟩:=zn hK1
   obtain ⟨ds,h3,h4,vs,h5,h6,h7⟩:=nK hT h hok hown h1
   obtain ⟨v,f1,f2⟩:=hrun β l.toS.used ok w (a.tmps.getD x undef) (by rw [← e0];exact h.env x) (fun k hk r hr=>(h.heap k r hr).2)
   have hd:RdD ok' w v d:=h2 β l.toS.used ok ok' w _ f2 (fun k hk r hr=>⟨(h.heap k r hr).2,fun b hb=>hown k r b hr hb⟩) hok
   refine ⟨d::ds,h3,by simp [h4],v::vs,?_,by simp [h6],fun i v' d' hv hd'=>?_⟩
   ·rw [List.mapM_cons]
    have:=Ls f1
    simp only [yI,Sem.run_bind] at this ⊢
    rw [this]
    simp only [Result.andThen_ok,h5,Sem.run_pure]
   ·cases i with
    | zero=>simp at hv hd';subst hd';rw [← hv];exact hd
    | succ i=>exact h7 i v' d' (by simpa using hv) (by simpa using hd')
def Ed:Nat→List D→List (Nat×V)
 | _,[]=>[]
 | k,d::ds=>(k,.d d)::Ed (k+1) ds
theorem DK:∀ (ds:List D) (k t:Nat),lJ (Ed k ds) t=if k≤t then (match ds[t-k]? with | some d => .d d | none => .any) else .any
 | [],k,t=>by simp [Ed,lJ]
 | d::ds,k,t=>by
   unfold Ed lJ
   cases h:Nat.beq k t with
   | true=>rw [← Nat.eq_of_beq_eq_true h];simp
   | false=>
     have hne:k≠t:=fun e=>by rw [e,Nat.beq_refl] at h;cases h
     simp only
     rw [DK ds (k+1) t]
     by_cases hkt:k≤t
     ·rw [if_pos (by omega),if_pos hkt,show t-k=(t-(k+1))+1 by omega]
      simp
     ·rw [if_neg (by omega),if_neg hkt]
theorem mG {fn:Func} {a:Act} {w:World} {vs:List Value} (h:(fn.results.toList.mapM (yI a.tmps)).run P w = .ok vs w) :
  (results fn a.tmps).run P w = .ok (match vs with | [v]=>v | vs => .tuple vs.toArray) w:=by
 rw [uZ,Sem.run_bind]
 have:(fn.results.mapM (yI a.tmps)).run P w = .ok vs.toArray w:=by
  rw [Array.mapM_eq_mapM_toList]
  simp only [Sem.run_map,h,Result.andThen_ok]
 rw [this]
 simp only [Result.andThen_ok,Sem.run_pure]
 match vs with
 | []=>rfl
 | [v]=>rfl
 | v::u::r=>simp
theorem Pure.of_wp (hT:TOK P T) {f:FuncId} {fn:Func} {c:Code} {nt:Nat} {ds rs:List D} (hf:P.funcs[f]?=some fn) (hb:fn.body=some c) (hname:(fn.name == "runtime.NumGoroutine")=false) (hnt:fn.ntmps=nt) (hle:Nat.ble ds.length nt=true) (hok:codeOk nt c=true)
  (h:∀ w0 ok0 β0,WP P ⟨w0,ok0,fun _ _=>False,nt,β0,[]⟩ c (ano T fn.results.toList rs) ⟨Ed 0 ds,[],[]⟩):Pure P f ds rs:=by
 refine ⟨⟨fn,hf,hname,by rw [hb];rfl⟩,fun ok w vs hgl hokb hsz hrd=>calls_of_wp hf hb ?_⟩
 have hle':ds.length≤nt:=Nat.le_of_ble_eq_true hle
 let C:Ctx:=⟨w,ok,fun _ _=>False,nt,fun _=>undef,[]⟩
 have hrel:Rel C (SL.toS ⟨Ed 0 ds,[],[]⟩) { tmps:=vs++Array.replicate (fn.ntmps-vs.size) undef,defers:=[] } w:=by
  refine ⟨fun _=>undef,ok,rfl,?_,fun t=>?_,fun k r hr=>(by cases hr),fun k r b hr=>(by cases hr),fun k k' r r' b hr=>(by cases hr),hokb,fun b hb=>hb,fun b hb => .inl hb,Frame.refl _ _,fun i hi=>(by cases hi),hgl⟩
  ·show (vs++Array.replicate (fn.ntmps-vs.size) undef).size=nt
   simp [hsz,hnt];omega
  ·show RdV _ _ _ _ _ (lJ (Ed 0 ds) t)
   rw [DK]
   simp only [Nat.zero_le,if_true,Nat.sub_zero]
   cases hd:ds[t]? with
   | none=>exact .any _
   | some d=>
     have ht:t<vs.size:=by rw [hsz];exact (List.getElem?_eq_some_iff.1 hd).1
     have hv:vs[t]?=some vs[t]:=by simp [ht]
     have e:(vs++Array.replicate (fn.ntmps-vs.size) undef).getD t undef=vs[t]:=by
      simp [Array.getElem?_append_left ht,ht]
     rw [e]
     exact .d _ _ (hrd t _ d hv hd)
 refine wp_mono (h w ok (fun _=>undef) hok _ w hrel) ?_
 have fin:∀ (l':SL) (a':Act) (w':World),Rel C l'.toS a' w'→(mF T l' fn.results.toList fun ds'=>ds'=rs)→a'.defers=[]∧∃ v,(results fn a'.tmps).run P w' = .ok v w' ∧
   ∃ v',Ending.returned v = .returned v'∧Frame (fun _ _=>False) w w'∧NZ (fun b=>ok b∨(w.heap.size≤b∧b<w'.heap.size)) w' v' rs:=fun l' a' w' ⟨β,ok',hr⟩ hq=>by
  obtain ⟨ds',h1,h2,vs',h3,h4,h5⟩:=nK hT hr (ok':=fun b=>ok b∨(w.heap.size≤b∧b<w'.heap.size)) (fun b hb=>by
   rcases hr.okn b hb with h' | h' | h'
   ·exact .inl h'
   ·exact .inr ⟨h',hr.okb b hb⟩
   ·exact (h' 0).elim) (fun k r b hr' hb'=>by
   obtain ⟨_,s2,s3⟩:=hr.sep k r b hr' hb'
   refine .inr ⟨?_,s2⟩
   rcases Nat.lt_or_ge b w.heap.size with hlt | hge
   ·have:=s3 hlt
    cases r with
    | cell _=>exact this.2.elim
    | arr _ _=>exact (this 0).elim
    | map _=>exact (this 0).elim
    | rows _ _ _=>exact (this 0).elim
   ·exact hge) hq
  subst h1
  refine ⟨hr.defers,_,mG h3,_,rfl,hr.frame,?_⟩
  match ds',vs',h2,h4,h5 with
  | [],[],_,_,h5=>exact ⟨#[],rfl,rfl,fun i u r hu=>by simp at hu⟩
  | [d],[v],_,_,h5=>exact h5 0 v d rfl rfl
  | d::d2::dr,v::v2::vr,h2,h4,h5=>exact ⟨_,rfl,(by simp at h2 h4 ⊢;omega),fun i u r hu hr'=>h5 i u r (by simpa using hu) hr'⟩
  | [],v::vr,h2,h4,_=>simp at h2 h4;omega
  | [d],[],h2,h4,_=>simp at h2 h4;omega
  | [d],v::v2::vr,h2,h4,_=>simp at h2 h4;omega
  | d::d2::dr,[],h2,h4,_=>simp at h2 h4;omega
  | d::d2::dr,[v],h2,h4,_=>simp at h2 h4;omega
 rintro e a' w' ⟨l',hr,hq⟩
 cases e with
 | normal=>exact fin l' a' w' hr hq
 | ret=>exact fin l' a' w' hr hq
 | exit id=>exact hq.elim
 | goto l=>exact hq.elim
 | panic ch=>exact hq.elim
 | outgrown=>exact hq.elim
end
section
variable {P:Program} {T:Nat→TE} {C:Ctx} {Q:Exit→SL→Prop} {l:SL}
end
end Go.Abs
