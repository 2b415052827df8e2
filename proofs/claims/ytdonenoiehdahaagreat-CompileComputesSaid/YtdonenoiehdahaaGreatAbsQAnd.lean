/- States as lists, the evaluator of a row of operations, regions that draw their order. -/
import Derived.Test.YtdonenoiehdahaaGreatAbsTAnd
import Derived.Still
set_option linter.all false
namespace Go.Abs
open Go Go.RowKit
def XR (P:Program) (T:Nat→TE) (mu:Bool) (o:Oper) (vals:List V) (h:Key→Option Res) (n:Nat) (K:KK):Prop:=
 match o.op with
 | .move _=>JM vals K
 | .assign _=>JM vals K
 | .pick _ _ _=>Pj vals K
 | .alloc t=>QV (T t) n K
 | .box t _=>Vz mu (T t) vals n K
 | .build t parts=>match (T t).k with
   | .arr n e=>MX T t n e parts.toList vals K
   | _=>QU (T t) parts.toList vals K
 | .buildSlice t len parts=>yM T mu t len parts.toList vals n K
 | .load t _=>match vals with
   | [.jZ id i]=>QO (T t) [.jZ id i] h n K
   | vals=>zN (T t) vals h K
 | .store t _ _=>match vals with
   | [.jZ id i,v]=>MS (T t) [.jZ id i,v] h K
   | vals=>aP (T t).known (JK (T t) vals h K)
 | .nilCheck _=>wZ vals K
 | .binOp op t _ _ _=>VA op (T t) vals K
 | .unOp op _ _=>Zt op vals K
 | .convert src dst _=>Pn (T src).k (T dst).k vals K
 | .makeFunc fn first _=>EG fn first.size vals K
 | .makeSlice t _ _=>match mu with
   | true=>EF T t vals n K
   | false=>AV T t vals n K
 | .fieldAddr t _ f=>AY (T t) f vals K
 | .field t _ f=>QT (T t) f vals K
 | .indexAddr t _ _=>match vals with
   | [.rsl id len,i]=>yK T t [.rsl id len,i] K
   | vals=>AX T t vals K
 | .index t _ _=>QS (T t) vals K
 | .extract _ i=>zO i vals K
 | .slice t _ lo hi mx=>BO T t lo.isSome hi.isSome mx.isSome vals K
 | .makeMap _ r=>match r with
   | none=>Io n K
   | some _=>False
 | .lookup t _ _ ok=>EI T (T t) ok vals h K
 | .mapUpdate t _ _ _=>tJ T (T t) vals h K
 | .call c=>match c.callee with
   | .value _=>Po P vals h K∨JU P vals h K
   | .builtin .len=>match c.argTypes,c.args with
     | ⟨[t]⟩,⟨[_]⟩=>match (T t).k with
       | .map _ _=>EK (T t) vals h K
       | _=>Vy (T t) vals K
     | _,_=>False
   | .builtin .delete=>match c.argTypes,c.args with
     | ⟨[t,_]⟩,⟨[_,_]⟩=>EM T (T t) vals h K
     | _,_=>False
   | .builtin .max=>match c.args with
     | ⟨[_,_]⟩=>Vx vals K
     | _=>False
   | .builtin .append=>match c.argTypes,c.args with
     | ⟨[t,t']⟩,⟨[_,_]⟩=>aP (Nat.beq t t') (Nb T t vals h n K)
     | _,_=>False
   | _=>False
 | _=>False
theorem Pm {P:Program} {T:Nat→TE} (hT:TOK P T) {mu:Bool} {o:Oper} {vals:List V} {h:Key→Option Res} {n:Nat} {K:KK} (hK:XR P T mu o vals h n K) :
  ∃ x δ rd nw,K x δ rd nw∧aC P o vals h x δ rd nw:=by
 unfold XR at hK;split at hK
 ·exact yH (.inl (by assumption)) hK
 ·exact yH (.inr (by assumption)) hK
 ·exact JL (by assumption) hK
 ·exact F6 hT (by assumption) hK
 ·exact MZ (by assumption) hK
 ·split at hK
  ·exact EN hT (by assumption) (by assumption) hK
  ·exact F5 hT (by assumption) hK
 ·exact xq hT (by assumption) hK
 ·split at hK
  ·exact FW hT (by assumption) hK
  ·exact JO hT (by assumption) hK
 ·split at hK
  ·exact ED hT (by assumption) hK
  ·obtain ⟨h1,h2⟩:=ah hK;exact FU hT (by assumption) h1 h2
 ·exact zK (by assumption) hK
 ·exact Na hT (by assumption) hK
 ·exact Ph (by assumption) hK
 ·exact JQ hT (by assumption) hK
 ·exact zM (by assumption) hK
 ·split at hK
  ·exact zL hT (by assumption) hK
  ·exact yI hT (by assumption) hK
 ·exact yL hT (by assumption) hK
 ·exact FY hT (by assumption) hK
 ·split at hK
  ·exact xk hT (by assumption) hK
  ·exact yJ hT (by assumption) hK
 ·exact FX hT (by assumption) hK
 ·exact BA (by assumption) hK
 ·exact FV hT (by assumption) hK
 ·split at hK
  ·exact Bz (by assumption) hK
  ·exact hK.elim
 ·exact EH hT (by assumption) hK
 ·exact nT hT (by assumption) hK
 ·rename_i c ho;obtain ⟨callee,as,tys⟩:=c;split at hK
  ·rename_i fv hc;simp only at hc;subst hc;exact hK.elim (JR ho) (FZ ho)
  ·rename_i hc;simp only at hc;subst hc;split at hK
   ·rename_i t x h1 h2;simp only at h1 h2;subst h1;subst h2;split at hK
    ·exact EJ hT ho hK
    ·exact MW hT ho hK
   ·exact hK.elim
  ·rename_i hc;simp only at hc;subst hc;split at hK
   ·rename_i t t' x y h1 h2;simp only at h1 h2;subst h1;subst h2;exact EL hT ho hK
   ·exact hK.elim
  ·rename_i hc;simp only at hc;subst hc;split at hK
   ·rename_i x y h1;simp only at h1;subst h1;exact MV ho hK
   ·exact hK.elim
  ·rename_i hc;simp only at hc;subst hc;split at hK
   ·rename_i t t' x y h1 h2;simp only at h1 h2;subst h1;subst h2;obtain ⟨h1,h2⟩:=ah hK;have e:t=t':=Nat.eq_of_beq_eq_true h1;subst e;exact EO hT ho h2
   ·exact hK.elim
  ·exact hK.elim
 ·exact hK.elim
structure Y where
 x:V
 δ:List (Key×Option Res)
 rd:List Key
 nw:List Nat
def S.after (s:S) (o:Oper) (y:Y):S:=s.apply o.dst y.x y.δ y.nw
def fU (ops:Array Oper) (o:Oper) (s:S):Option Bool:=
 match o.guard with
 | none=>some true
 | some (j,want)=>match (ops[j]?).bind (·.dst) with
   | some d=>match s.env d with
     | .d (.bool b)=>some (b==want)
     | .undef=>some false
     | _=>none
   | none=>none
def Yields (P:Program) (ops:Array Oper) (o:Oper) (y:Y) (s:S):Prop:=
 (fU ops o s=some true∧∃ h,aC P o (o.op.operands.toList.map s.ev) h y.x y.δ y.rd y.nw∧(∀ k∈y.rd,s.hp k=h k)∧(∀ i∈y.nw,¬ s.used i)) ∨
 (fU ops o s=some false∧y=⟨.undef,[],[],[]⟩)
theorem Gf {ops:Array Oper} {o:Oper} {C:Ctx} {s:S} {a:Act} {w:World} {b:Bool} (hr:Rel C s a w) (hg:∀ j want,o.guard=some (j,want)→∀ d,(ops[j]?).bind (·.dst)=some d→d<C.nt) (h:fU ops o s=some b) :
  Region.wanted o (yielded ops a.tmps)=b:=by
 obtain ⟨β,ok,hr⟩:=hr;unfold fU at h;unfold Region.wanted;split at h
 ·rename_i hgd;simp only [hgd];simpa using h
 ·rename_i j want hgd;simp only [hgd];split at h
  ·rename_i d hd;split at h
   ·rename_i b' hb;have:=hr.env d;rw [hb] at this;have hv:=this.fB;have hlt:d<a.tmps.size:=(by rw [hr.Gp];exact hg j want hgd d hd);simp only [yielded,hd,Option.bind_some];have e:a.tmps[d]?=some (a.tmps.getD d undef):=(by simp [hlt]);rw [e];generalize a.tmps.getD d undef=v at hv;cases hv;simp only [Option.some.injEq] at h;subst h;cases b'<;>cases want<;>rfl
   ·rename_i hb;have:=hr.env d;rw [hb] at this;simp only [Option.some.injEq] at h;subst h;have hlt:d<a.tmps.size:=(by rw [hr.Gp];exact hg j want hgd d hd);simp only [yielded,hd,Option.bind_some];have e:a.tmps[d]?=some (a.tmps.getD d undef):=(by simp [hlt]);rw [e];generalize a.tmps.getD d undef=v at this;cases this;rfl
   ·cases h
  ·cases h
def Yy (nt:Nat) (o:Oper):Bool:=match o.dst with | some d=>Nat.blt d nt | none=>true
def UG (nt:Nat) (o:Oper):Bool:=Yy nt o&&o.op.operands.toList.all okO
theorem G6 {nt:Nat} {o:Oper} (h:UG nt o=true):(∀ d,o.dst=some d→d<nt)∧∀ y∈o.op.operands.toList,okO y=true:=by
 simp only [UG,Bool.and_eq_true] at h;refine ⟨fun d hd=>?_,List.all_eq_true.1 h.2⟩;have:=h.1;unfold Yy at this;rw [hd] at this;exact Nat.le_of_ble_eq_true this
theorem CJ {P:Program} {ops:Array Oper} {o:Oper} {y:Y} {C:Ctx} {s:S} {a:Act} {w:World} (hr:Rel C s a w) (hop:UG C.nt o=true) (hg:∀ j want,o.guard=some (j,want)→∀ d,(ops[j]?).bind (·.dst)=some d→d<C.nt)
  (hy:Yields P ops o y s) {K:Act→World→Prop} {Q:Exit→Act→World→Prop} (hK:∀ a' w',Rel C (s.after o y) a' w'→K a' w') :
  if Region.wanted o (yielded ops a.tmps) then o.wp P a w K Q else K (a.put o.dst undef) w:=by
 obtain ⟨hd,ho⟩:=G6 hop;rcases hy with ⟨h1,h,h2,h3,h4⟩ | ⟨h1,rfl⟩
 ·rw [Gf hr hg h1];exact h2 C s a w hr rfl h3 h4 hd ho K Q hK
 ·rw [Gf hr hg h1];obtain ⟨β,ok,hr⟩:=hr;exact hK _ _ ⟨β,ok,hr.put hd .undef⟩
structure Apart (x y:Y):Prop where
 wr:∀ k r,(k,r)∈x.δ→k∉y.rd∧∀ r',(k,r')∉y.δ
 rw:∀ k r,(k,r)∈y.δ→k∉x.rd
 nw:∀ i∈x.nw,i∉y.nw
theorem Apart.symm {x y:Y} (h:Apart x y):Apart y x:=
 ⟨fun k r hk=>⟨h.rw k r hk,fun r' hr'=>(h.wr k r' hr').2 r hk⟩,fun k r hk=>(h.wr k r hk).1,fun i hi hi'=>h.nw i hi' hi⟩
theorem oN {h:Key→Option Res} {δ:List (Key×Option Res)} {k:Key} (hk:∀ r,(k,r)∉δ):kW h δ k=h k:=by
 rcases dY h δ k with ⟨e,_⟩ | ⟨r,hm,_⟩
 ·exact e
 ·exact absurd hm (hk r)
theorem Vw {s:S} {dst:Option Tmp} {x:V} {δ:List (Key×Option Res)} {nw:List Nat} {y:Operand} (h:∀ d,dst=some d→y ≠ .tmp d):(s.apply dst x δ nw).ev y=s.ev y:=by
 cases y with
 | tmp t=>
   show (if dst=some t then x else s.env t)=s.env t;rw [if_neg];intro e;exact h t e rfl
 | _=>rfl
theorem LP {ops:Array Oper} {o:Oper} {d:Tmp} (h : .tmp d∈o.op.operands.toList):d∈o.looksAt ops:=
 List.mem_append_left _ (List.mem_filterMap.2 ⟨.tmp d,by simpa using h,rfl⟩)
theorem FI {ops:Array Oper} {o:Oper} {s:S} {dst:Option Tmp} {x:V} {δ:List (Key×Option Res)} {nw:List Nat} (h:∀ d,dst=some d→d∉o.looksAt ops) :
  fU ops o (s.apply dst x δ nw)=fU ops o s:=by
 unfold fU;cases hg:o.guard with
 | none=>rfl
 | some gw=>
   obtain ⟨j,want⟩:=gw;simp only;cases hd:(ops[j]?).bind (·.dst) with
   | none=>rfl
   | some d=>
     have hl:d∈o.looksAt ops:=List.mem_append_right _ (by simp only [hg];rw [hd];simp);have:(s.apply dst x δ nw).env d=s.env d:=by
      show (if dst=some d then x else s.env d)=s.env d;rw [if_neg];intro e;exact h d e hl
     simp only [this]
theorem Yields.over {P:Program} {ops:Array Oper} {oi oj:Oper} {yi yj:Y} {s:S} (hap:Apart yi yj) (h:∀ d,oi.dst=some d→d∉oj.looksAt ops):Yields P ops oj yj (s.after oi yi)↔Yields P ops oj yj s:=by
 have hw:fU ops oj (s.after oi yi)=fU ops oj s:=FI h;have hops:oj.op.operands.toList.map (s.after oi yi).ev=oj.op.operands.toList.map s.ev:=List.map_congr_left fun y hy=>Vw fun d hd e=>h d hd (LP (e ▸ hy))
 have hh:∀ k∈yj.rd,(s.after oi yi).hp k=s.hp k:=fun k hk=>oN fun r hr=>(hap.wr k r hr).1 hk
 have hu:∀ i∈yj.nw,((s.after oi yi).used i↔s.used i):=fun i hi=>⟨fun h=>h.elim id (fun h'=>absurd hi (hap.nw i h')),fun h => .inl h⟩
 unfold Yields;rw [hw,hops];constructor
 ·rintro (⟨h1,h',h2,h3,h4⟩ | h1)
  ·exact .inl ⟨h1,h',h2,fun k hk=>(hh k hk).symm.trans (h3 k hk),fun i hi hu'=>h4 i hi ((hu i hi).2 hu')⟩
  ·exact .inr h1
 ·rintro (⟨h1,h',h2,h3,h4⟩ | h1)
  ·exact .inl ⟨h1,h',h2,fun k hk=>(hh k hk).trans (h3 k hk),fun i hi hu'=>h4 i hi ((hu i hi).1 hu')⟩
  ·exact .inr h1
theorem I4 (h h':Key→Option Res) {k:Key}:∀ {δ:List (Key×Option Res)} {r:Option Res},(k,r)∈δ→kW h δ k=kW h' δ k
 | [],r,hm=>by cases hm
 | (k',r')::l,r,hm=>by
   by_cases e:k'=k
   ·simp [kW,e]
   ·rcases List.mem_cons.1 hm with hm | hm
    ·cases hm;exact absurd rfl e
    ·simp only [kW,if_neg e];exact I4 h h' hm
theorem PW {s:S} {oi oj:Oper} {yi yj:Y} (hap:Apart yi yj) (h:∀ d,oi.dst=some d→oj.dst≠some d):(s.after oi yi).after oj yj=(s.after oj yj).after oi yi:=by
 unfold S.after S.apply;congr 1
 ·funext t;by_cases e1:oj.dst=some t<;>by_cases e2:oi.dst=some t<;>simp [e1,e2];exact absurd e1 (h t e2)
 ·funext k;show kW (kW s.hp yi.δ) yj.δ k=kW (kW s.hp yj.δ) yi.δ k;rcases dY s.hp yi.δ k with ⟨e,hno⟩ | ⟨r,hm,e⟩
  ·rw [oN (h:=kW s.hp yj.δ) hno];rcases dY s.hp yj.δ k with ⟨e',hno'⟩ | ⟨r',hm',e'⟩
   ·rw [oN hno',oN hno',oN hno]
   ·exact I4 _ _ hm'
  ·rw [oN (h:=kW s.hp yi.δ) (hap.wr k r hm).2];exact I4 _ _ hm
 ·funext i
  exact propext ⟨fun h=>h.elim (fun h'=>h'.elim (fun h'' => .inl (.inl h'')) (fun h'' => .inr h'')) (fun h' => .inl (.inr h')),
   fun h=>h.elim (fun h'=>h'.elim (fun h'' => .inl (.inl h'')) (fun h'' => .inr h'')) (fun h' => .inl (.inr h'))⟩
section
variable {P:Program} {ops:Array Oper} {md:Region.Mode}
def Wi (P:Program) (md:Region.Mode) (ops:Array Oper) (ys:Nat→Y) (K:S→Prop):Nat→Array Bool→S→Prop
 | 0,listed,s=>Region.ready md ops listed=[]∧K s
 | fuel+1,listed,s=>(Region.ready md ops listed=[]→K s) ∧
   ∀ i∈Region.ready md ops listed,∀ o,ops[i]?=some o→Yields P ops o (ys i) s∧Wi P md ops ys K fuel (listed.setIfInBounds i true) (s.after o (ys i))
def Dt (nt:Nat) (ops:Array Oper):Bool:=ops.toList.all (UG nt)
theorem wL {nt:Nat} (h:Dt nt ops=true) {i:Nat} {o:Oper} (hi:ops[i]?=some o):UG nt o=true:=
 List.all_eq_true.1 h o (by have:=Array.mem_of_getElem? hi;simpa using this)
theorem MG {nt:Nat} (h:Dt nt ops=true) (o:Oper):∀ j want,o.guard=some (j,want)→∀ d,(ops[j]?).bind (·.dst)=some d→d<nt:=fun j want _ d hd=>by
 cases hj:ops[j]? with
 | none=>rw [hj] at hd;cases hd
 | some oj=>
   rw [hj] at hd;exact (G6 (wL h hj)).1 d hd
theorem vM {C:Ctx} (hok:Dt C.nt ops=true) {ys:Nat→Y} {K:S→Prop} {Q:Exit→Act→World→Prop} (hQ:∀ s a w,Rel C s a w→K s→Q .normal a w) :
  ∀ (fuel:Nat) (listed:Array Bool) (s:S) (a:Act) (w:World),Rel C s a w→Wi P md ops ys K fuel listed s→wpAny P md ops Q fuel listed a w
 | 0,listed,s,a,w,hr,h=>⟨h.1,hQ s a w hr h.2⟩
 | fuel+1,listed,s,a,w,hr,h=>⟨fun h0=>hQ s a w hr (h.1 h0),fun i hi=>by
   obtain ⟨_,o,ho,_⟩:=mem_ready.1 hi;obtain ⟨h1,h2⟩:=h.2 i hi o ho;unfold wpOp;simp only [ho];have:=CJ (Q:=Q) hr (wL hok ho) (MG hok o) h1 (K:=wpAny P md ops Q fuel (listed.setIfInBounds i true)) (fun a' w' hr'=>vM hok hQ fuel _ _ a' w' hr' h2);split
   ·rename_i hw;rw [if_pos hw] at this;exact .inl this
   ·rename_i hw;rw [if_neg hw] at this;exact this⟩
theorem PV {ys:Nat→Y} {K:S→Prop} {i:Nat} {oi:Oper} (hi:ops[i]?=some oi) :
  ∀ (fuel:Nat) (listed:Array Bool) (s:S),
    (∀ j oj,ops[j]?=some oj→j≠i→listed.getD j true=false→(∀ e∈oj.after,Region.binds md e=true→e.on≠i)→oi.apart ops oj=true∧Apart (ys i) (ys j)) →
    i∈Region.ready md ops listed→Yields P ops oi (ys i) s →
    Wi P md ops ys K fuel (listed.setIfInBounds i true) (s.after oi (ys i))→Wi P md ops ys K (fuel+1) listed s:=by
 intro fuel
 induction fuel with
 | zero=>
   intro listed s _ hr hy H;refine ⟨fun h=>(by rw [h] at hr;cases hr),fun j hj o ho=>?_⟩;by_cases hji:j=i
   ·subst hji;rw [hi] at ho;cases ho;exact ⟨hy,H⟩
   ·have:=ready_mono hj hji;rw [H.1] at this;cases this
 | succ fuel ih=>
   intro listed s hfree hr hy H;refine ⟨fun h=>(by rw [h] at hr;cases hr),fun j hj oj hoj=>?_⟩;by_cases hji:j=i
   ·subst hji;rw [hi] at hoj;cases hoj;exact ⟨hy,H⟩
   ·obtain ⟨hjun,o2,ho2,hall⟩:=mem_ready.1 hj;rw [hoj] at ho2;cases ho2;obtain ⟨h1,h2⟩:=H.2 j (ready_mono hj hji) oj hoj;have hnot:∀ e∈oj.after,Region.binds md e=true→e.on≠i:=fun e he hb heq=>by
     have h1:=hall e he hb;have h0:=(mem_ready.1 hr).1;rw [heq] at h1;rcases Nat.lt_or_ge i listed.size with h' | h'
     ·simp [h'] at h0 h1;rw [h0] at h1;cases h1
     ·simp [Array.getElem?_eq_none h'] at h1
    obtain ⟨hap,hap2⟩:=hfree j oj hoj hji hjun hnot;obtain ⟨p1,p2,p3⟩:=Oper.apart_spec hap;have hyj:Yields P ops oj (ys j) s:=(Yields.over hap2 p1).1 h1;have hyi:Yields P ops oi (ys i) (s.after oj (ys j)):=(Yields.over hap2.symm p3).2 hy;refine ⟨hyj,ih (listed.setIfInBounds j true) (s.after oj (ys j)) ?_ (ready_mono hr (Ne.symm hji)) hyi ?_⟩
    ·intro k ok hk hki hun hno;refine hfree k ok hk hki ?_ hno;by_cases hjk:j=k
     ·subst hjk;exact hjun
     ·rw [getD_set_ne true hjk] at hun;exact hun
    ·rw [Array.setIfInBounds_comm _ _ hji,← PW hap2 p2];exact h2
def Sz (P:Program) (ops:Array Oper) (ys:Nat→Y) (K:S→Prop):List Oper→Nat→S→Prop
 | [],_,s=>K s
 | o::l,k,s=>Yields P ops o (ys k) s∧Sz P ops ys K l (k+1) (s.after o (ys k))
def NP (md:Region.Mode) (ops:Array Oper) (ys:Nat→Y):Prop:=
 ∀ i j oj,ops[j]?=some oj→i<j→(∀ e∈oj.after,Region.binds md e=true→e.on≠i)→Apart (ys i) (ys j)
theorem NJ {ys:Nat→Y} {K:S→Prop} (hap:NP md ops ys):∀ (l:List Oper) (k:Nat) (listed:Array Bool) (s:S),(∀ j,l[j]?=ops[k+j]?) →
  (∀ j,j<k→listed.getD j true=true)→Region.lexFrom md ops l.length k listed=true→Sz P ops ys K l k s→Wi P md ops ys K l.length listed s
 | [],_,_,_,_,_,hB,h=>⟨by simpa [Region.lexFrom] using hB,h⟩
 | o::l,k,listed,s,hl,hlist,hB,h=>by
   have h0:ops[k]?=some o:=(by simpa using (hl 0).symm);simp only [List.length_cons,Region.lexFrom,Bool.and_eq_true] at hB;obtain ⟨⟨hr,hf⟩,hB'⟩:=hB;have hfree:=Region.free_spec h0 hf;have hr':k∈Region.ready md ops listed:=(by simpa using hr);refine PV h0 l.length listed s (fun j oj hj hne hun hno=>⟨hfree j oj hj hne hun hno,hap k j oj hj ?_ hno⟩) hr' h.1
    (NJ hap l (k+1) _ _ (fun j=>by have:=hl (j+1);simpa [Nat.add_assoc,Nat.add_comm 1 j] using this) (fun j hj=>?_) hB' h.2)
   ·rcases Nat.lt_or_ge k j with h' | h'
    ·exact h'
    ·have:=hlist j (by omega);rw [hun] at this;cases this
   ·by_cases e:k=j
    ·subst e;have hsz:k<listed.size:=by
      have:=(mem_ready.1 hr').1;rcases Nat.lt_or_ge k listed.size with h' | h'
      ·exact h'
      ·simp [Array.getElem?_eq_none h'] at this
     simp [hsz]
    ·rw [getD_set_ne true e];exact hlist j (by omega)
theorem Ba {C:Ctx} {id:Nat} (hm:P.follows .mixedOrders=true) (hB:Region.lexB .any ops=true) (hok:Dt C.nt ops=true) {ys:Nat→Y} (hap:NP .any ops ys) {K:S→Prop} {Q:Exit→Act→World→Prop}
  (hQ:∀ s a w,Rel C s a w→K s→Q .normal a w) {s:S} {a:Act} {w:World} (hr:Rel C s a w) (h:Sz P ops ys K ops.toList 0 s):(Code.region id ops true).wp P Q a w:=by
 simp only [Region.lexB,Bool.and_eq_true] at hB;refine wp_region_any hm (vM (ys:=ys) hok hQ ops.size _ s a _ hr.drew ?_);have:=NJ (ys:=ys) hap ops.toList 0 (Array.replicate ops.size false) s (by simp) (fun j hj=>by omega) (by simpa using hB.2) h
 simpa using this
theorem Aa {C:Ctx} (hok:Dt C.nt ops=true) {ys:Nat→Y} {K:S→Prop} {Q:Exit→Act→World→Prop} (hQ:∀ s a w,Rel C s a w→K s→Q .normal a w) :
  ∀ (l:List Oper) (k:Nat),(∀ o∈l,o∈ops)→∀ (s:S) (a:Act) (w:World),Rel C s a w→Sz P ops ys K l k s→wpList P ops Q l a w
 | [],k,_,s,a,w,hr,h=>hQ s a w hr h
 | o::l,k,hl,s,a,w,hr,h=>by
   obtain ⟨i,hi⟩:=Array.getElem?_of_mem (hl o (by simp));have:=CJ (Q:=Q) hr (wL hok hi) (MG hok o) h.1 (K:=wpList P ops Q l) (fun a' w' hr'=>Aa hok hQ l (k+1) (fun o ho=>hl o (by simp [ho])) _ a' w' hr' h.2);unfold wpList;split
   ·rename_i hw;rw [if_pos hw] at this;exact .inl this
   ·rename_i hw;rw [if_neg hw] at this;exact this
theorem BX {C:Ctx} {id:Nat} (hok:Dt C.nt ops=true) {ys:Nat→Y} {K:S→Prop} {Q:Exit→Act→World→Prop} (hQ:∀ s a w,Rel C s a w→K s→Q .normal a w)
  {s:S} {a:Act} {w:World} (hr:Rel C s a w) (h:Sz P ops ys K ops.toList 0 s):(Code.region id ops false).wp P Q a w:=
 wp_region_list (Aa hok hQ ops.toList 0 (fun o ho=>by simpa using ho) s a w hr h)
end
structure SL where
 env:List (Nat×V)
 hp:List (Key×Option Res)
 used:List Nat
def pU:List (Nat×V)→Nat→V
 | [],_ => .any
 | (t',v)::r,t=>match Nat.beq t' t with | true=>v | false=>pU r t
def FT (a b:Key):Bool:=match Nat.beq a.1 b.1 with | true=>Nat.beq a.2 b.2 | false=>false
theorem lZ {a b:Key}:FT a b=true↔a=b:=by
 obtain ⟨a1,a2⟩:=a;obtain ⟨b1,b2⟩:=b;unfold FT;simp only [Prod.mk.injEq];cases h:Nat.beq a1 b1 with
 | true=>simp only [Nat.eq_of_beq_eq_true h,true_and];exact ⟨fun h=>Nat.eq_of_beq_eq_true h,fun h=>by rw [h];exact Nat.beq_refl b2⟩
 | false=>
   constructor
   ·intro h';cases h'
   ·rintro ⟨rfl,_⟩;rw [Nat.beq_refl] at h;cases h
def iG:List (Key×Option Res)→Key→Option Res
 | [],_=>none
 | (k',r)::l,k=>match FT k' k with | true=>r | false=>iG l k
def SL.toS (l:SL):S:={ env:=pU l.env,hp:=iG l.hp,used:=fun i=>i∈l.used }
def vV:List (Nat×V)→Nat→(V→Prop)→Prop
 | [],_,K=>K .any
 | (t',v)::r,t,K=>match Nat.beq t' t with | true=>K v | false=>vV r t K
theorem jh {K:V→Prop} {t:Nat}:∀ {env:List (Nat×V)},vV env t K↔K (pU env t)
 | []=>Iff.rfl
 | (t',v)::r=>by
   unfold vV pU;cases Nat.beq t' t with
   | true=>exact Iff.rfl
   | false=>exact jh (env:=r)
def opK (l:SL) (x:Operand) (K:V→Prop):Prop:=
 match x with
 | .tmp t=>vV l.env t K
 | .const v=>match v with
   | .bool b=>K (.d (.bool b))
   | .int k n=>K (.d (.int k n))
   | v=>K (EY v)
 | .global g=>glK (gl g) K
 | .func f=>K (.func (.func f) [] [])
theorem Qv {l:SL} {x:Operand} {K:V→Prop}:opK l x K↔K (l.toS.ev x):=by
 cases x with
 | tmp t=>exact jh
 | const v=>cases v<;>exact Iff.rfl
 | global g=>exact XM
 | func f=>exact Iff.rfl
def Kt (l:SL):List Operand→(List V→Prop)→Prop
 | [],K=>K []
 | x::xs,K=>opK l x fun v=>Kt l xs fun vs=>K (v::vs)
theorem Gg {l:SL}:∀ {xs:List Operand} {K:List V→Prop},Kt l xs K↔K (xs.map l.toS.ev)
 | [],K=>Iff.rfl
 | x::xs,K=>by
   unfold Kt;rw [Qv,Gg];exact Iff.rfl
def Qu:Op→List Operand
 | .alloc _ | .ready _ | .waits _=>[]
 | .move x | .assign x | .box _ x | .load _ x | .nilCheck x | .unOp _ _ x | .convert _ _ x | .sliceToArrayPointer _ x | .makeInterface _ x
 | .makeChan _ x | .fieldAddr _ x _ | .field _ x _ | .range _ x | .next x _ | .entry x | .typeAssert x _ _ _ | .extract x _ | .panic x | .recv _ x _=>[x]
 | .pick c a b=>[c,a,b]
 | .build _ ⟨ps⟩ | .buildSlice _ _ ⟨ps⟩=>ps.map (·.2)
 | .store _ a v | .binOp _ _ a v _ | .makeSlice _ a v | .indexAddr _ a v | .index _ a v | .lookup _ a v _ | .mapEntry _ a v | .send a v=>[a,v]
 | .makeFunc _ ⟨first⟩ ⟨captured⟩=>first++captured
 | .makeMap _ r=>r.toList
 | .slice _ x l h m=>[x]++l.toList++h.toList++m.toList
 | .mapUpdate _ m k v | .entryStore _ m k v | .insert _ m k v=>[m,k,v]
 | .call c=>match c.callee,c.args with
   | .value f,⟨as⟩=>f::as
   | .invoke r _,⟨as⟩=>r::as
   | .builtin _,⟨as⟩=>as
 | op=>op.operands.toList
theorem UF (op:Op):op.operands.toList=Qu op:=by
 cases op<;>simp [Qu,Op.operands]
 case call c=>
  obtain ⟨callee,⟨as⟩,tys⟩:=c;cases callee<;>simp [Call.operands]
def YW (t:Option Tmp):List Nat→Bool
 | []=>false
 | x::xs=>match t with | some d=>Nat.beq d x||YW t xs | none=>false
def inB (i:Nat):List Nat→Bool
 | []=>false
 | x::xs=>match Nat.beq i x with | true=>true | false=>inB i xs
theorem uK {i:Nat}:∀ {l:List Nat},inB i l=false→i∉l
 | [],_=>by simp
 | x::xs,h=>by
   unfold inB at h;split at h
   ·cases h
   ·rename_i hx;have h2:=uK h;simp only [List.mem_cons,not_or];exact ⟨(fun e=>by rw [e,Nat.beq_refl] at hx;cases hx),h2⟩
def zC:List Nat→List Nat→Bool
 | [],_=>true
 | i::is,l=>match inB i l with | true=>false | false=>zC is l
theorem sV:∀ {is l:List Nat},zC is l=true→∀ i∈is,i∉l
 | [],l,_,i,hi=>by cases hi
 | j::is,l,h,i,hi=>by
   unfold zC at h;split at h
   ·cases h
   ·rename_i hj;rcases List.mem_cons.1 hi with rfl | hi
    ·exact uK hj
    ·exact sV h i hi
def Ld {α:Type}:List α→List α→(List α→Prop)→Prop
 | [],l,K=>K l
 | x::xs,l,K=>Ld xs l fun r=>K (x::r)
theorem zl {α:Type}:∀ {xs l:List α} {K:List α→Prop},Ld xs l K↔K (xs++l)
 | [],l,K=>Iff.rfl
 | x::xs,l,K=>by unfold Ld;exact zl
structure Ft where
 rd:List Key
 wr:List Key
 nw:List Nat
def SL.xB (l:SL) (dst:Option Tmp) (x:V) (δ:List (Key×Option Res)) (nw:List Nat) (K:SL→Prop):Prop:=
 match l with
 | ⟨env,hp,used⟩=>Ld δ hp fun hp'=>Ld nw used fun used'=>match dst with
   | some t=>K ⟨(t,x)::env,hp',used'⟩
   | none=>K ⟨env,hp',used'⟩
theorem AP {δ hp:List (Key×Option Res)}:iG (δ++hp)=kW (iG hp) δ:=by
 funext k
 induction δ with
 | nil=>rfl
 | cons e δ ih=>
   obtain ⟨k',r⟩:=e;show (match FT k' k with | true=>r | false=>iG (δ++hp) k)=if k'=k then r else kW (iG hp) δ k
   rw [← ih];cases h:FT k' k with
   | true=>rw [if_pos (lZ.1 h)]
   | false=>rw [if_neg (fun e=>by rw [lZ.2 e] at h;cases h)]
theorem um {l:SL} {dst:Option Tmp} {x:V} {δ:List (Key×Option Res)} {nw:List Nat} {K:SL→Prop} (h:l.xB dst x δ nw K):∃ l',K l'∧l'.toS=l.toS.apply dst x δ nw:=by
 obtain ⟨env,hp,used⟩:=l;unfold SL.xB at h;simp only at h;rw [zl,zl] at h;have hu:(fun i=>i∈nw++used)=fun i=>i∈used∨i∈nw:=by
  funext i;simp [or_comm]
 cases dst with
 | none=>
   refine ⟨_,h,?_⟩;simp only [SL.toS,S.apply,AP,hu];congr 1
 | some d=>
   refine ⟨_,h,?_⟩;simp only [SL.toS,S.apply,AP,hu];congr 1;funext t;show (match Nat.beq d t with | true=>x | false=>pU env t)=if some d=some t then x else pU env t
   cases e:Nat.beq d t with
   | true=>rw [if_pos (by rw [Nat.eq_of_beq_eq_true e])]
   | false=>rw [if_neg (fun e'=>by cases e';rw [Nat.beq_refl] at e;cases e)]
def EX:List Oper→Nat→Option Tmp
 | [],_=>none
 | o::_,0=>o.dst
 | _::os,j+1=>EX os j
theorem EW:∀ (os:List Oper) (j:Nat),EX os j=(os[j]?).bind (·.dst)
 | [],j=>rfl
 | o::os,0=>rfl
 | o::os,j+1=>by simpa [EX] using EW os j
def Z9 (o:Oper):Nat:=match o.dst with | some d=>d | none=>0
def O1 (v:V) (want:Bool) (A B:Prop):Prop:=match v with
 | .undef=>B
 | v=>Kz v fun b=>match want with | true=>wH b A B | false=>wH b B A
theorem MH {v:V} {want:Bool} {A B:Prop} (h:O1 v want A B):(v = .undef∧B)∨∃ b,v = .d (.bool b)∧((b=want∧A)∨(b=!want∧B)):=by
 unfold O1 at h;split at h
 ·exact .inl ⟨rfl,h⟩
 ·obtain ⟨b,hb,hAB⟩:=wE h;refine .inr ⟨b,hb,?_⟩;cases want with
  | true=>
    rcases oW hAB with ⟨e,hA⟩ | ⟨e,hB⟩
    ·exact .inl ⟨e,hA⟩
    ·exact .inr ⟨e,hB⟩
  | false=>
    rcases oW hAB with ⟨e,hB⟩ | ⟨e,hA⟩
    ·exact .inr ⟨e,hB⟩
    ·exact .inl ⟨e,hA⟩
def TW (P:Program) (T:Nat→TE) (M:List Nat) (os:List Oper) (o:Oper) (l:SL) (K:SL→Ft→Prop):Prop:=
 let A:=Kt l (Qu o.op) fun vals=>XR P T (YW o.dst M) o vals (iG l.hp) (Z9 o) fun x δ rd nw=>aP (zC nw l.used) (l.xB o.dst x δ nw fun l'=>K l' ⟨rd,δ.map (·.1),nw⟩)
 let B:=l.xB o.dst .undef [] [] fun l'=>K l' ⟨[],[],[]⟩
 match o.guard with
 | none=>A
 | some (j,want)=>match EX os j with
   | some d=>vV l.env d fun v=>O1 v want A B
   | none=>False
def sW (y:Y):Ft:=⟨y.rd,y.δ.map (·.1),y.nw⟩
theorem KH {P:Program} {T:Nat→TE} (hT:TOK P T) {M:List Nat} {ops:Array Oper} {o:Oper} {l:SL} {K:SL→Ft→Prop} (h:TW P T M ops.toList o l K) :
  ∃ y l',K l' (sW y)∧Yields P ops o y l.toS∧l'.toS=l.toS.after o y:=by
 unfold TW at h;have goA:(Kt l (Qu o.op) fun vals=>XR P T (YW o.dst M) o vals (iG l.hp) (Z9 o) fun x δ rd nw=>aP (zC nw l.used) (l.xB o.dst x δ nw fun l'=>K l' ⟨rd,δ.map (·.1),nw⟩)) →
   fU ops o l.toS=some true→∃ y l',K l' (sW y)∧Yields P ops o y l.toS∧l'.toS=l.toS.after o y:=fun h hw=>by
  rw [Gg] at h;obtain ⟨x,δ,rd,nw,h1,h2⟩:=Pm hT h;obtain ⟨h3,h4⟩:=ah h1;obtain ⟨l',h5,h6⟩:=um h4;exact ⟨⟨x,δ,rd,nw⟩,l',h5,.inl ⟨hw,iG l.hp,by rw [UF];exact h2,fun k hk=>rfl,fun i hi=>sV h3 i hi⟩,h6⟩
 have goB:(l.xB o.dst .undef [] [] fun l'=>K l' ⟨[],[],[]⟩)→fU ops o l.toS=some false→∃ y l',K l' (sW y)∧Yields P ops o y l.toS∧l'.toS=l.toS.after o y:=fun h hw=>by
  obtain ⟨l',h5,h6⟩:=um h;exact ⟨⟨.undef,[],[],[]⟩,l',h5,.inr ⟨hw,rfl⟩,h6⟩
 split at h
 ·rename_i hg;exact goA h (by unfold fU;rw [hg])
 ·rename_i j want hg;split at h
  ·rename_i d hd;rw [jh] at h;have e:(ops[j]?).bind (·.dst)=some d:=(by rw [← hd,EW];simp);rcases MH h with ⟨hun,hB⟩ | ⟨b,hb,hAB⟩
   ·refine goB hB ?_;unfold fU;rw [hg];simp only [e];show (match pU l.env d with | .d (.bool b)=>some (b==want) | .undef=>some false | _=>none)=_;rw [hun]
   ·have hw:fU ops o l.toS=some (b==want):=by
     unfold fU;rw [hg];simp only [e];show (match pU l.env d with | .d (.bool b)=>some (b==want) | .undef=>some false | _=>none)=_;rw [hb]
    rcases hAB with ⟨e,hA⟩ | ⟨e,hB⟩
    ·exact goA hA (by rw [hw,e];simp)
    ·exact goB hB (by rw [hw,e];cases want<;>rfl)
  ·exact h.elim
def Xq (k:Key):List Key→Bool
 | []=>false
 | x::xs=>match FT k x with | true=>true | false=>Xq k xs
theorem DR {k:Key}:∀ {l:List Key},Xq k l=false→k∉l
 | [],_=>by simp
 | x::xs,h=>by
   unfold Xq at h;split at h
   ·cases h
   ·rename_i hx;simp only [List.mem_cons,not_or];exact ⟨(fun e=>by rw [lZ.2 e] at hx;cases hx),DR h⟩
def Iu:List Key→List Key→Bool
 | [],_=>true
 | k::ks,l=>match Xq k l with | true=>false | false=>Iu ks l
theorem qI:∀ {ks l:List Key},Iu ks l=true→∀ k∈ks,k∉l
 | [],l,_,k,hk=>by cases hk
 | j::ks,l,h,k,hk=>by
   unfold Iu at h;split at h
   ·cases h
   ·rename_i hj;rcases List.mem_cons.1 hk with rfl | hk
    ·exact DR hj
    ·exact qI h k hk
def apartB (x y:Ft):Bool:=Iu x.wr y.rd&&Iu x.wr y.wr&&Iu y.wr x.rd&&zC x.nw y.nw
theorem NH {x y:Y} (h:apartB (sW x) (sW y)=true):Apart x y:=by
 simp only [apartB,Bool.and_eq_true,sW] at h;obtain ⟨⟨⟨h1,h2⟩,h3⟩,h4⟩:=h;have hm:∀ (y:Y) k r,(k,r)∈y.δ→k∈y.δ.map (·.1):=fun y k r hk=>List.mem_map.2 ⟨_,hk,rfl⟩
 exact ⟨fun k r hk=>⟨qI h1 k (hm x k r hk),fun r' hr'=>qI h2 k (hm x k r hk) (hm y k r' hr')⟩,fun k r hk=>qI h3 k (hm y k r hk),sV h4⟩
def wC (i:Nat):List Edge→Bool
 | []=>false
 | e::es=>match Region.binds .any e&&Nat.beq e.on i with | true=>true | false=>wC i es
theorem qV {i:Nat}:∀ {es:List Edge},wC i es=true→∃ e∈es,Region.binds .any e=true∧e.on=i
 | [],h=>by cases h
 | e::es,h=>by
   unfold wC at h;split at h
   ·rename_i he;simp only [Bool.and_eq_true] at he;exact ⟨e,by simp,he.1,Nat.eq_of_beq_eq_true he.2⟩
   ·obtain ⟨e',h1,h2⟩:=qV h;exact ⟨e',by simp [h1],h2⟩
def chk (es:List Edge) (fp:Ft):List (Nat×Ft)→Bool
 | []=>true
 | (i,f)::acc=>match wC i es||apartB f fp with | true=>chk es fp acc | false=>false
theorem Nv {es:List Edge} {fp:Ft}:∀ {acc:List (Nat×Ft)},chk es fp acc=true→∀ i f,(i,f)∈acc→wC i es=true∨apartB f fp=true
 | [],_,i,f,hm=>by cases hm
 | (j,g)::acc,h,i,f,hm=>by
   unfold chk at h;split at h
   ·rename_i hj;rcases List.mem_cons.1 hm with hm | hm
    ·cases hm;simpa using hj
    ·exact Nv h i f hm
   ·cases h
def Oi (P:Program) (T:Nat→TE) (M:List Nat) (draw:Bool) (all:List Oper):List Oper→Nat→List (Nat×Ft)→SL→(SL→Prop)→Prop
 | [],_,_,l,K=>K l
 | o::os,k,acc,l,K=>TW P T M all o l fun l' fp=>match draw with
   | false=>Oi P T M draw all os (k+1) acc l' K
   | true=>aP (chk o.after.toList fp acc) (Oi P T M draw all os (k+1) ((k,fp)::acc) l' K)
theorem CY {P:Program} {T:Nat→TE} (hT:TOK P T) {M:List Nat} {draw:Bool} {ops:Array Oper} {K:SL→Prop}:∀ (os:List Oper) (k:Nat) (acc:List (Nat×Ft)) (l:SL) (ys0:Nat→Y),
  Oi P T M draw ops.toList os k acc l K→(draw=true→∀ i,i<k→(i,sW (ys0 i))∈acc) →
  ∃ ys:Nat→Y,(∀ i,i<k→ys i=ys0 i)∧Sz P ops ys (fun s=>∃ l',s=l'.toS∧K l') os k l.toS ∧
    (draw=true→∀ i j oj,os[j]?=some oj→i<k+j→(∀ e∈oj.after,Region.binds .any e=true→e.on≠i)→Apart (ys i) (ys (k+j)))
 | [],k,acc,l,ys0,h,_=>⟨ys0,fun _ _=>rfl,⟨l,rfl,h⟩,fun _ i j oj hj=>by simp at hj⟩
 | o::os,k,acc,l,ys0,h,hacc=>by
   unfold Oi at h;obtain ⟨y,l',h1,h2,h3⟩:=KH hT h
   let ys1:Nat→Y:=fun i=>if i=k then y else ys0 i
   have hk:ys1 k=y:=(by simp [ys1]);have hlt:∀ i,i<k→ys1 i=ys0 i:=fun i hi=>by simp only [ys1];rw [if_neg (by omega)]
   have key:∃ acc',Oi P T M draw ops.toList os (k+1) acc' l' K∧(draw=true→∀ i,i<k+1→(i,sW (ys1 i))∈acc')∧(draw=true→∀ i,i<k→(∀ e∈o.after,Region.binds .any e=true→e.on≠i)→Apart (ys1 i) y):=by
    cases draw with
    | false=>exact ⟨acc,h1,(fun h=>by cases h),(fun h=>by cases h)⟩
    | true=>
      obtain ⟨hc,h1⟩:=ah h1;refine ⟨_,h1,fun _ i hi=>?_,fun _ i hi hno=>?_⟩
      ·rcases Nat.lt_or_ge i k with hik | hik
       ·rw [hlt i hik];exact List.mem_cons_of_mem _ (hacc rfl i hik)
       ·have:i=k:=(by omega);subst this;rw [hk];exact List.mem_cons_self
      ·rcases Nv hc i _ (hacc rfl i hi) with hw | hap
       ·obtain ⟨e,he,hb,hon⟩:=qV hw;exact absurd hon (hno e (by simpa using he) hb)
       ·rw [hlt i hi];exact NH hap
   obtain ⟨acc',hr,ha,hn⟩:=key;obtain ⟨ys,g1,g2,g3⟩:=CY hT os (k+1) acc' l' ys1 hr ha;have hyk:ys k=y:=(g1 k (by omega)).trans hk;refine ⟨ys,fun i hi=>(g1 i (by omega)).trans (hlt i hi),⟨by rw [hyk];exact h2,by rw [hyk,← h3];exact g2⟩,fun hd i j oj hj hij hno=>?_⟩;cases j with
   | zero=>
     simp at hj;subst hj;have:=hn hd i (by omega) hno;rw [← g1 i (by omega)] at this;rw [Nat.add_zero,hyk];exact this
   | succ j=>
     have:=g3 hd i j oj (by simpa using hj) (by omega) hno;rw [show k+(j+1)=k+1+j by omega];exact this
def UU (x:Nat):List Nat→Bool
 | []=>false
 | y::ys=>match Nat.beq x y with | true=>true | false=>UU x ys
theorem Jr (x:Nat):∀ l:List Nat,UU x l=l.contains x
 | []=>rfl
 | y::ys=>by
   unfold UU;rw [List.contains_cons,← Jr x ys];by_cases e:x=y
   ·subst e;simp
   ·have:Nat.beq x y=false:=by cases h:Nat.beq x y with
     | true=>exact absurd (Nat.eq_of_beq_eq_true h) e
     | false=>rfl
    simp [this,e]
def tmpsOf:List Operand→List Nat
 | []=>[]
 | .tmp t::r=>t::tmpsOf r
 | _::r=>tmpsOf r
theorem Gq:∀ l:List Operand,tmpsOf l=l.filterMap fun | .tmp t=>some t | _=>none
 | []=>rfl
 | x::r=>by cases x<;>simp [tmpsOf,Gq r]
def wQ (os:List Oper) (o:Oper):List Nat:=
 tmpsOf o.op.operands.toList++(match o.guard with
  | some (g,_)=>match EX os g with | some d=>[d] | none=>[]
  | none=>[])
theorem Hf (ops:Array Oper) (o:Oper):wQ ops.toList o=o.looksAt ops:=by
 unfold wQ Oper.looksAt;rw [Gq];congr 1;cases o.guard with
 | none=>rfl
 | some gw=>
   obtain ⟨g,wt⟩:=gw;have e:(ops[g]?).bind (·.dst)=EX ops.toList g:=(by rw [EW];simp);simp only [e];cases EX ops.toList g<;>rfl
def J5 (d1:Option Nat) (l1:List Nat) (d2:Option Nat) (l2:List Nat):Bool:=
 match (match d1 with
  | some d=>match UU d l2 with | true=>false | false=>(match d2 with | some d'=>!Nat.beq d' d | none=>true)
  | none=>true) with
 | true=>(match d2 with | some d=>!UU d l1 | none=>true)
 | false=>false
theorem NG {ops:Array Oper} {x y:Oper} (h:J5 x.dst (wQ ops.toList x) y.dst (wQ ops.toList y)=true):x.apart ops y=true:=by
 rw [Hf,Hf] at h;unfold J5 at h;unfold Oper.apart;split at h
 ·rename_i h1;rw [Bool.and_eq_true];constructor
  ·split at h1
   ·rename_i d hd;simp only [hd];split at h1
    ·cases h1
    ·rename_i hm;rw [Jr] at hm;rw [hm];cases hy:y.dst with
     | none=>rfl
     | some d'=>
       rw [hy] at h1;simp only at h1;have hne:d'≠d:=(by intro e;subst e;simp at h1);simp [hne]
   ·rename_i hd;simp only [hd]
  ·split at h
   ·rename_i d hd;simp only [hd];rw [← Jr];exact h
   ·rename_i hd;simp only [hd]
 ·cases h
def ET (k:Nat):List Edge→Bool
 | []=>true
 | e::es=>match Region.binds .any e with
   | true=>(match Nat.blt e.on k with | true=>ET k es | false=>false)
   | false=>ET k es
theorem tV {k:Nat}:∀ {es:List Edge},ET k es=true→∀ e∈es,Region.binds .any e=true→e.on<k
 | [],_,e,he,_=>by cases he
 | x::es,h,e,he,hb=>by
   unfold ET at h;split at h
   ·split at h
    ·rename_i h2;rcases List.mem_cons.1 he with rfl | he
     ·exact Nat.le_of_ble_eq_true h2
     ·exact tV h e he hb
    ·cases h
   ·rename_i h1;rcases List.mem_cons.1 he with rfl | he
    ·rw [hb] at h1;cases h1
    ·exact tV h e he hb
def OG:Op→Bool
 | .select ..=>false
 | _=>true
def Dp (es:List Edge) (d:Option Nat) (l:List Nat):List (Nat×Option Nat×List Nat)→Bool
 | []=>true
 | (i,di,li)::acc=>match wC i es with
   | true=>Dp es d l acc
   | false=>(match J5 di li d l with | true=>Dp es d l acc | false=>false)
theorem rX {es:List Edge} {d:Option Nat} {l:List Nat}:∀ {acc:List (Nat×Option Nat×List Nat)},Dp es d l acc=true→∀ i di li,(i,di,li)∈acc→wC i es=true∨J5 di li d l=true
 | [],_,i,di,li,h=>by cases h
 | (i',d',l')::acc,h,i,di,li,hm=>by
   unfold Dp at h;split at h
   ·rename_i h1;rcases List.mem_cons.1 hm with e | hm
    ·cases e;exact .inl h1
    ·exact rX h i di li hm
   ·split at h
    ·rename_i h2;rcases List.mem_cons.1 hm with e | hm
     ·cases e;exact .inr h2
     ·exact rX h i di li hm
    ·cases h
def MR (all:List Oper):List Oper→Nat→List (Nat×Option Nat×List Nat)→Bool
 | [],_,_=>true
 | o::os,k,acc=>match OG o.op with
   | true=>(match ET k o.after.toList with
     | true=>(match Dp o.after.toList o.dst (wQ all o) acc with
       | true=>MR all os (k+1) ((k,o.dst,wQ all o)::acc)
       | false=>false)
     | false=>false)
   | false=>false
theorem EC {ops:Array Oper}:∀ (os:List Oper) (k:Nat) (acc:List (Nat×Option Nat×List Nat)),MR ops.toList os k acc=true→(∀ j,os[j]?=ops[k+j]?) →
  (∀ i oi,i<k→ops[i]?=some oi→(i,oi.dst,wQ ops.toList oi)∈acc) →
  ∀ j oj,k≤j→ops[j]?=some oj→OG oj.op=true∧(∀ e∈oj.after,Region.binds .any e=true→e.on<j) ∧
    ∀ i oi,i<j→ops[i]?=some oi→(∀ e∈oj.after,Region.binds .any e=true→e.on≠i)→oi.apart ops oj=true
 | [],k,acc,_,hl,_,j,oj,hj,hoj=>by
   have:=hl (j-k);rw [show k+(j-k)=j by omega,hoj] at this;simp at this
 | o::os,k,acc,h,hl,hacc,j,oj,hj,hoj=>by
   unfold MR at h;split at h
   case h_2=>cases h
   rename_i h1;split at h
   case h_2=>cases h
   rename_i h2;split at h
   case h_2=>cases h
   rename_i h3;have h0:ops[k]?=some o:=(by simpa using (hl 0).symm);rcases Nat.lt_or_ge k j with hlt | hge
   ·refine EC os (k+1) _ h (fun j=>by have:=hl (j+1);simpa [Nat.add_assoc,Nat.add_comm 1 j] using this) (fun i oi hi hoi=>?_) j oj hlt hoj;rcases Nat.lt_or_ge i k with hik | hik
    ·exact List.mem_cons_of_mem _ (hacc i oi hik hoi)
    ·have:i=k:=(by omega);subst this;rw [h0] at hoi;cases hoi;exact List.mem_cons_self
   ·have:j=k:=(by omega);subst this;rw [h0] at hoj;cases hoj;refine ⟨h1,fun e he hb=>tV h2 e (by simpa using he) hb,fun i oi hi hoi hno=>?_⟩;rcases rX h3 _ _ _ (hacc i oi hi hoi) with hw | hap
    ·obtain ⟨e,he,hb,hon⟩:=qV hw;exact absurd hon (hno e (by simpa using he) hb)
    ·exact NG hap
theorem Tq {ops:Array Oper} (h:MR ops.toList ops.toList 0 []=true):Region.lexB .any ops=true:=by
 have key:=EC ops.toList 0 [] h (fun j=>by simp) (fun i oi hi=>by omega);have main:∀ (n k:Nat) (listed:Array Bool),k+n=ops.size→listed.size=ops.size→(∀ j,j<ops.size→listed[j]?=some (decide (j<k)))→Region.lexFrom .any ops n k listed=true:=by
  intro n
  induction n with
  | zero=>
    intro k listed hk hs hl;unfold Region.lexFrom;rw [List.isEmpty_iff];refine List.eq_nil_iff_forall_not_mem.2 fun j hj=>?_
    obtain ⟨h1,o,ho,_⟩:=mem_ready.1 hj;have hlt:=(Array.getElem?_eq_some_iff.1 ho).1;have:=hl j hlt;simp only [Array.getD_eq_getD_getElem?,this,Option.getD_some] at h1;have:j<k:=(by omega);simp [this] at h1
  | succ n ih=>
    intro k listed hk hs hl;unfold Region.lexFrom;have hlt:k<ops.size:=(by omega);have h0:ops[k]?=some ops[k]:=(by simp [hlt]);simp only [Bool.and_eq_true];refine ⟨⟨?_,?_⟩,ih (k+1) _ (by omega) (by simpa using hs) (fun j hj=>?_)⟩
    ·rw [List.contains_iff_mem,mem_ready];refine ⟨by simp only [Array.getD_eq_getD_getElem?,hl k hlt];simp,ops[k],h0,fun e he hb=>?_⟩;have h1:=(key k _ (Nat.zero_le _) h0).2.1 e he hb;simp only [Array.getD_eq_getD_getElem?,hl e.on (by omega),Option.getD_some];simp [h1]
    ·unfold Region.free;rw [h0];simp only [List.all_eq_true,List.mem_range];intro j hj;have hj0:ops[j]?=some ops[j]:=(by simp [hj]);by_cases e:j=k
     ·simp [e]
     ·simp only [Array.getD_eq_getD_getElem?,hl j hj,Option.getD_some,hj0];rcases Nat.lt_or_ge j k with hjk | hjk
      ·simp [hjk]
      ·by_cases hw:∀ e∈ops[j].after,Region.binds .any e=true→e.on≠k
       ·have:=(key j _ (Nat.zero_le _) hj0).2.2 k _ (by omega) h0 hw;simp [this]
       ·have:(ops[j].after.any fun e=>Region.binds .any e&&e.on==k)=true:=by
         cases hany:(ops[j].after.any fun e=>Region.binds .any e&&e.on==k) with
         | true=>rfl
         | false=>
           refine absurd (fun e he hb hon=>?_) hw;have:(ops[j].after.any fun e=>Region.binds .any e&&e.on==k)=true:=Array.any_eq_true'.2 ⟨e,he,by simp [hb,hon]⟩;rw [hany] at this;cases this
        simp [this]
    ·by_cases e:k=j
     ·subst e;simp [hs,hj]
     ·rw [Array.getElem?_setIfInBounds_ne e,hl j hj];congr 1;by_cases h':j<k
      ·simp [h'];omega
      ·simp [h'];omega
 simp only [Region.lexB,Bool.and_eq_true];refine ⟨?_,main ops.size 0 _ (by omega) (by simp) (fun j hj=>by simp [hj])⟩;unfold Region.noSelect;rw [Array.all_eq_true_iff_forall_mem];intro o ho;obtain ⟨j,hj⟩:=Array.getElem?_of_mem ho;have:=(key j o (Nat.zero_le _) hj).1;unfold OG at this;split at this<;>simp_all
def codeOk (nt:Nat):Code→Bool
 | .region _ ops draw=>Dt nt ops&&(!draw||MR ops.toList ops.toList 0 [])
 | .seq a b=>codeOk nt a&&codeOk nt b
 | .cond _ a b=>codeOk nt a&&codeOk nt b
 | .block _ c=>codeOk nt c
 | .loop c=>codeOk nt c
 | .skip | .exit _ | .ret=>true
 | _=>false
def WP (P:Program) (C:Ctx) (c:Code) (Q:Exit→SL→Prop) (l:SL):Prop:=
 codeOk C.nt c=true→∀ a w,Rel C l.toS a w→c.wp P (fun e a' w'=>∃ l',Rel C l'.toS a' w'∧Q e l') a w
section
variable {P:Program} {T:Nat→TE} {C:Ctx} {Q:Exit→SL→Prop} {l:SL}
theorem W2 (hT:TOK P T) (hm:P.follows .mixedOrders=true) (M:List Nat) {id:Nat} {ops:List Oper} {draw:Bool} (h:Oi P T M draw ops ops 0 [] l fun l'=>Q .normal l'):WP P C (.region id ops.toArray draw) Q l:=by
 intro hok a w hr;simp only [codeOk,Bool.and_eq_true] at hok;obtain ⟨ys,_,h2,h3⟩:=CY (ops:=ops.toArray) hT ops 0 [] l (fun _=>⟨.any,[],[],[]⟩) h (fun _ i hi=>by omega);have hQ:∀ s a w,Rel C s a w→(∃ l',s=l'.toS∧Q .normal l')→∃ l',Rel C l'.toS a w∧Q .normal l':=fun s a w hr ⟨l',e,hq⟩=>⟨l',e ▸ hr,hq⟩
 cases draw with
 | false=>exact BX (Q:=fun e a' w'=>∃ l',Rel C l'.toS a' w'∧Q e l') hok.1 hQ hr (by simpa using h2)
 | true=>
   refine Ba (Q:=fun e a' w'=>∃ l',Rel C l'.toS a' w'∧Q e l') hm (Tq (by simpa using hok.2)) hok.1 (ys:=ys) (fun i j oj hj hij hno=>?_) hQ hr (by simpa using h2);have:=h3 rfl i j oj (by simpa using hj) (by omega) hno
   simpa using this
def Qc (next:SL→Prop) (Q:Exit→SL→Prop):Exit→SL→Prop
 | .normal,l=>next l
 | e,l=>Q e l
theorem W1 {a b:Code} (h:WP P C a (Qc (fun l'=>WP P C b Q l') Q) l):WP P C (.seq a b) Q l:=by
 intro hok act w hr;simp only [codeOk,Bool.and_eq_true] at hok;refine wp_seq (wp_mono (h hok.1 act w hr) ?_);rintro e a' w' ⟨l',hr',hq⟩;cases e
 case normal=>exact hq hok.2 a' w' hr'
 all_goals exact ⟨l',hr',hq⟩
theorem W7 {x:Operand} {a b:Code} (h:opK l x fun v=>Kz v fun t=>wH t (WP P C a Q l) (WP P C b Q l)) (hx:okO x=true):WP P C (.cond x a b) Q l:=by
 intro hok act w hr;simp only [codeOk,Bool.and_eq_true] at hok;rw [Qv] at h;obtain ⟨t,ht,h12⟩:=wE h;obtain ⟨β,ok,hr0⟩:=hr;have hv:=hr0.eval x hx;rw [ht] at hv;have hv':=hv.fB;have he:act.eval x = .bool t:=by
  generalize act.eval x=v at hv';cases hv';rfl
 rcases oW h12 with ⟨rfl,h1⟩ | ⟨rfl,h2⟩
 ·exact wp_cond_true he (h1 hok.1 act w ⟨β,ok,hr0⟩)
 ·exact wp_cond_false he (h2 hok.2 act w ⟨β,ok,hr0⟩)
def D6 (id:Nat) (Q:Exit→SL→Prop):Exit→SL→Prop
 | .exit id',l=>match Nat.beq id' id with | true=>Q .normal l | false=>Q (.exit id') l
 | e,l=>Q e l
theorem W3 {id:Nat} {c:Code} (h:WP P C c (D6 id Q) l):WP P C (.block id c) Q l:=by
 intro hok act w hr;refine wp_block (wp_mono (h hok act w hr) ?_);rintro e a' w' ⟨l',hr',hq⟩;cases e
 case exit id'=>
  show if id'=id then _ else _
  unfold D6 at hq;simp only at hq;cases hb:Nat.beq id' id with
  | true=>
    rw [hb] at hq;rw [if_pos (Nat.eq_of_beq_eq_true hb)];exact ⟨l',hr',hq⟩
  | false=>
    rw [hb] at hq;rw [if_neg (fun e=>by rw [e,Nat.beq_refl] at hb;cases hb)];exact ⟨l',hr',hq⟩
 all_goals exact ⟨l',hr',hq⟩
theorem W4 (h:Q .ret l):WP P C .ret Q l:=fun _ _ _ hr=>wp_ret ⟨l,hr,h⟩
theorem W5 (h:Q .normal l):WP P C .skip Q l:=fun _ _ _ hr=>wp_skip ⟨l,hr,h⟩
theorem W6 {id:Nat} (h:Q (.exit id) l):WP P C (.exit id) Q l:=fun _ _ _ hr=>wp_exit ⟨l,hr,h⟩
def isGo:Code→Bool
 | .seq _ _ | .region _ _ _ | .block _ _ | .ret | .skip | .exit _=>true
 | .cond x _ _=>okO x
 | _=>false
def goF (P:Program) (T:Nat→TE) (C:Ctx) (c:Code) (Q:Exit→SL→Prop) (l:SL):Prop:=match c with
 | .seq a b=>WP P C a (Qc (fun l'=>WP P C b Q l') Q) l
 | .region _ ops draw=>Oi P T [] draw ops.toList ops.toList 0 [] l fun l'=>Q .normal l'
 | .cond x a b=>opK l x fun v=>Kz v fun t=>wH t (WP P C a Q l) (WP P C b Q l)
 | .block id c=>WP P C c (D6 id Q) l
 | .ret=>Q .ret l
 | .skip=>Q .normal l
 | .exit id=>Q (.exit id) l
 | _=>False
theorem WP.go (hT:TOK P T) (hm:P.follows .mixedOrders=true) {c:Code} (hg:isGo c=true) (h:goF P T C c Q l):WP P C c Q l:=by
 cases c with
 | seq a b=>exact W1 h
 | region id ops draw=>exact W2 (ops:=ops.toList) hT hm [] h
 | cond x a b=>exact W7 h hg
 | block id c=>exact W3 h
 | ret=>exact W4 h
 | skip=>exact W5 h
 | exit id=>exact W6 h
 | _=>cases hg
end
end Go.Abs
