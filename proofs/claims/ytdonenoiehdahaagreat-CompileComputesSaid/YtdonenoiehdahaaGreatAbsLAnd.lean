/- The evaluator of one operation, continued: what makes memory, and what writes it. -/
import Derived.Test.YtdonenoiehdahaaGreatAbsFAnd
set_option linter.all false
namespace Go.Abs
open Go Go.RowKit
section
variable {P:Program} {T:Nat→TE}
theorem Ky {v:V} {K:D→Prop} (h:vD1 v K):∃ x,K x∧∀ (β:Nat→Value) (u ok:Nat→Prop) (w:World) val,RdV β u ok w val v→RdD ok w val x:=by
 cases v<;>simp only [vD1] at h
 case d x=>exact ⟨x,h,fun β u ok w val hv=>hv.fB⟩
 case aG=>exact ⟨_,h,fun β u ok w val hv=>by cases hv;exact .lC _⟩
 case emp=>exact ⟨_,h,fun β u ok w val hv=>by cases hv;exact .lC _⟩
theorem Kw:∀ {vs:List V} {K:List D→Prop},vDs vs K→∃ ds,K ds∧ds.length=vs.length ∧
  ∀ (β:Nat→Value) (u ok:Nat→Prop) (w:World) (j:Nat) val v d,vs[j]?=some v→ds[j]?=some d→RdV β u ok w val v→RdD ok w val d
 | [],K,h=>⟨[],h,rfl,fun β u ok w j val v d hv=>by simp at hv⟩
 | v::vs,K,h=>by
   unfold vDs at h;obtain ⟨x,h1,h2⟩:=Ky h;obtain ⟨ds,h3,h4,h5⟩:=Kw h1;refine ⟨x::ds,h3,by simp [h4],fun β u ok w j val v' d hv hd hr=>?_⟩;cases j with
   | zero=>simp at hv hd;subst hv;subst hd;exact h2 β u ok w val hr
   | succ j=>exact h5 β u ok w j val v' d (by simpa using hv) (by simpa using hd) hr
theorem kU {v:V} {K:D→Prop} (h:vD v K):∃ x,K x∧∀ (β:Nat→Value) (u ok:Nat→Prop) (w:World) val,RdV β u ok w val v→RdD ok w val x:=by
 unfold vD at h;split at h
 ·rename_i cs;obtain ⟨ds,h1,h2,h3⟩:=Kw h;refine ⟨_,h1,fun β u ok w val hv=>?_⟩;cases hv with
  | agg vs _ q1 q2 q3=>
    have key:∀ (i:Nat) v c,vs[i]?=some v→ds[i]?=some c→RdD ok w v c:=fun i v c hv hc=>by
     have hi:i<cs.length:=(by rw [← h2];exact (List.getElem?_eq_some_iff.1 hc).1);have hcs:cs[i]?=some cs[i]:=(by simp);exact h3 β u ok w i v _ c hcs hc (q2 i v _ hv hcs)
    exact .agg _ _ (by rw [q1,h2]) key (fun i v c hv hc=>⟨q3 i v hv,by rw [← (key i v c hv hc).oneCell];exact q3 i v hv⟩)
 ·exact Ky h
def mapD:List D→(List V→Prop)→Prop
 | [],K=>K []
 | d::ds,K=>mapD ds fun vs=>K (.d d::vs)
theorem uH:∀ {ds:List D} {K:List V→Prop},mapD ds K→K (ds.map .d)
 | [],_,h=>h
 | d::ds,K,h=>by unfold mapD at h;exact uH (K:=fun vs=>K (.d d::vs)) h
def qX (agg:Bool) (v:V) (K:List V→Prop):Prop:=
 match agg with
 | true=>match v with
   | .agg cs=>K cs
   | .d x=>asAgg x fun ds=>mapD ds K
   | _=>False
 | false=>match v with
   | .d x=>x.one=true∧K [.d x]
   | .aG=>K [.aG]
   | .emp=>K [.emp]
   | .ptr id off=>K [.ptr id off]
   | .sl id sz off len=>K [.sl id sz off len]
   | .ael id sz i off=>K [.ael id sz i off]
   | .map id=>K [.map id]
   | .func fn f c=>K [.func fn f c]
   | _=>False
theorem qW {agg:Bool} {v:V} {K:List V→Prop} (h:qX agg v K):∃ cs,K cs∧∀ (β:Nat→Value) (u ok:Nat→Prop) (w:World) val,RdV β u ok w val v →
  val.cells.size=cs.length∧∀ (j:Nat) u0 c,val.cells[j]?=some u0→cs[j]?=some c→RdV β u ok w u0 c∧u0.oneCell'=true:=by
 have one:∀ (v:V) (val:Value),(∀ cs,val ≠ .agg cs)→val.oneCell'=true→∀ (β:Nat→Value) (u ok:Nat→Prop) (w:World),RdV β u ok w val v→val.cells.size=[v].length∧∀ (j:Nat) u0 c,val.cells[j]?=some u0→[v][j]?=some c→RdV β u ok w u0 c∧u0.oneCell'=true:=by
  intro v val hna h1 β u ok w hr;have hc:val.cells=#[val]:=by cases val<;>first | rfl | exact absurd rfl (hna _)
  rw [hc];refine ⟨rfl,fun j u0 c hu hc=>?_⟩;cases j<;>simp at hu hc;subst hu;subst hc;exact ⟨hr,h1⟩
 unfold qX at h;split at h
 ·split at h
  ·rename_i cs;refine ⟨cs,h,fun β u ok w val hv=>?_⟩;cases hv with
   | agg vs _ q1 q2 q3=>exact ⟨q1,fun j u0 c hu hc=>⟨q2 j u0 c hu hc,q3 j u0 hu⟩⟩
  ·obtain ⟨ds,rfl,h⟩:=qK h;refine ⟨_,uH h,fun β u ok w val hv=>?_⟩;obtain ⟨q1,q2⟩:=hv.fB.cellsOf;refine ⟨by simpa [D.cells] using q1,fun j u0 c hu hc=>?_⟩;simp only [List.getElem?_map,Option.map_eq_some_iff] at hc;obtain ⟨d,hd,rfl⟩:=hc;obtain ⟨f1,f2,_⟩:=q2 j u0 d hu hd;exact ⟨.d _ _ f1,f2⟩
  ·exact h.elim
 ·split at h
  ·obtain ⟨h1,h2⟩:=h;refine ⟨_,h2,fun β u ok w val hv=>one _ val (fun cs e=>?_) (by rw [hv.fB.oneCell];exact h1) β u ok w hv⟩;have:=hv.fB.oneCell;rw [h1,e] at this;cases this
  all_goals first
   | exact h.elim
   | (refine ⟨_,h,fun β u ok w val hv=>?_⟩
      cases hv<;>exact one _ _ (fun cs e=>by cases e) rfl β u ok w (by constructor<;>assumption))
def Vz (mu:Bool) (te:TE) (vals:List V) (n:Nat) (K:KK):Prop:=
 match vals with
 | [v]=>wH mu (qX te.k.isAgg v fun cs=>K (.ptr n 0) (mJ n 0 cs) [] [n]) (vD v fun x=>K (.d (.ref x.cells 0)) [] [] [])
 | _=>False
theorem MZ {o:Oper} {t:Nat} {x:Operand} (ho:o.op = .box t x) {mu:Bool} {vals:List V} {h:Key→Option Res} {n:Nat} {K:KK} (hK:Vz mu (T t) vals n K) :
  ∃ x δ rd nw,K x δ rd nw∧aC P o vals h x δ rd nw:=by
 unfold Vz at hK;split at hK
 ·rename_i v;unfold wH at hK;split at hK
  ·obtain ⟨cs,hK,h1⟩:=qW hK;refine ⟨_,_,_,_,hK,aC.of_run fun C β ok s a w hr g1 g2 g3 g4 g5=>?_⟩;simp only [ho,Op.operands,List.map_cons,List.map_nil,List.cons.injEq,and_true] at g1 g5;have hx:=hr.eval x (g5 x (by simp));rw [g1] at hx;obtain ⟨q1,q2⟩:=h1 β s.used ok w _ hx;obtain ⟨β',hrel⟩:=hr.LK (dst:=o.dst) g4 (g3 n (by simp)) (cells:=(a.eval x).cells) t (xs:=cs) q1 (fun j v x hv hx=>q2 j v x hv hx);exact ⟨_,_,.inl (by simp [execOp,ho,Instr.box,newVar,newRow]),β',ok,hrel⟩
  ·obtain ⟨d,hK,h1⟩:=kU hK;refine ⟨_,_,_,_,hK,aC.of_run fun C β ok s a w hr g1 g2 g3 g4 g5=>?_⟩;simp only [ho,Op.operands,List.map_cons,List.map_nil,List.cons.injEq,and_true] at g1 g5;have hx:=hr.eval x (g5 x (by simp));rw [g1] at hx;obtain ⟨v',o',f1,f2⟩:=CX (P:=P) hr.okb (h1 β s.used ok w _ hx) t;exact ⟨v',_,.inl (by simp [execOp,ho,f1]),β,_,hr.box g4 (.d _ _ f2)⟩
 ·exact hK.elim
def QV (te:TE) (n:Nat) (K:KK):Prop:=
 aP te.known (aP (te.zero.cells.toList.all wM) (K (.ptr n 0) (mJ n 0 (te.zero.cells.toList.map cellC)) [] [n]))
theorem F6 (hT:TOK P T) {o:Oper} {t:Nat} (ho:o.op = .alloc t) {vals:List V} {h:Key→Option Res} {n:Nat} {K:KK} (hK:QV (T t) n K) :
  ∃ x δ rd nw,K x δ rd nw∧aC P o vals h x δ rd nw:=by
 obtain ⟨hk,hK⟩:=ah hK;obtain ⟨hz,hK⟩:=ah hK;obtain ⟨d,i,hf⟩:=hT.facts (TE.bP hk);have hz':∀ v∈(T t).zero.cells.toList,wM v=true:=List.all_eq_true.1 hz;refine ⟨_,_,_,_,hK,aC.of_run fun C β ok s a w hr g1 g2 g3 g4 g5=>?_⟩
 obtain ⟨β',hrel⟩:=hr.LK (dst:=o.dst) g4 (g3 n (by simp)) (cells:=(T t).zero.cells) t (xs:=(T t).zero.cells.toList.map cellC) (by simp) (fun j v x hv hx=>by
  have hm:v∈(T t).zero.cells.toList:=by have:=Array.mem_of_getElem? hv;simpa using this
  simp [hv] at hx;subst hx;have:=hz' v hm
  exact ⟨xX _ _ _ _ _ this,by cases v<;>simp_all [wM,Value.oneCell']⟩)
 exact ⟨_,_,.inl (by simp [execOp,ho,Instr.alloc,zeroValue,typeInfo,hf.info,hf.zero,newVar,newRow]),β',ok,hrel⟩
def qo (cs:List D) (off:Nat) (r:List D):List D:=cs.take off++r++cs.drop (off+r.length)
def JK (te:TE) (vals:List V) (h:Key→Option Res) (K:KK):Prop:=
 match vals with
 | [.ptr id off,v]=>qX te.k.isAgg v fun cs=>aP (Nat.beq cs.length te.size) (aP (Nat.blt 0 te.size) (getCells h id off te.size fun _=>K .any (mJ id off cs) (pK id off te.size) []))
 | [.ael id sz i off,v]=>jw (h (id,0)) fun sz' xs=>aP (Nat.beq sz sz') (vD v fun d=>d.cells.length=te.size∧∃ x,xs[i]?=some x ∧
   ((off=0∧te.size=sz∧K .any [((id,0),some (.arr sz (xs.set i d)))] [(id,0)] []) ∨
    (∃ cs,x = .agg cs∧(cs.length=sz∧off+te.size≤sz)∧K .any [((id,0),some (.arr sz (xs.set i (.agg (qo cs off d.cells)))))] [(id,0)] [])))
 | _=>False
theorem ql (w:World) {t:Nat} {te:TE} {d:TypeDesc} {i:TypeInfo} (hf:jS P t te d i) (b off:Nat) (cur:Array Value) (Tb:TypeId) (hb:w.heap[b]?=some (.cells cur Tb (0,0))) (v:Value) (hs:v.cells.size=te.size)
  (hfit:off+v.cells.size≤cur.size) (h1:∀ u∈v.cells.toList,u.oneCell'=true):(Instr.storeAt t (.pointer (some ⟨b,off,none⟩)) v).run P w = .ok () (w.setRow b (patch cur off v.cells.toList)):=by
 have hst:=run_storeCells_at P b off Tb v.cells.toList 0 cur w hb (by simpa using hfit) h1;simp only [Nat.add_zero] at hst;simp only [Instr.storeAt,Instr.sureAddr,storeVar,Sem.run_bind,Sem.run_pure,Result.andThen_ok,hf.sizeOf,hs,ne_eq,not_true_eq_false,if_false];exact hst
theorem FU (hT:TOK P T) {o:Oper} {t:Nat} {x y:Operand} (ho:o.op = .store t x y) (hkn:(T t).known=true) {vals:List V} {h:Key→Option Res} {K:KK} (hK:JK (T t) vals h K) :
  ∃ x δ rd nw,K x δ rd nw∧aC P o vals h x δ rd nw:=by
 obtain ⟨dd,ii,hf⟩:=hT.facts (TE.bP hkn);unfold JK at hK;split at hK
 ·rename_i id off v;obtain ⟨cs,hK,h1⟩:=qW hK;obtain ⟨hlen,hK⟩:=ah hK;obtain ⟨hpos,hK⟩:=ah hK;have hlen':cs.length=(T t).size:=Nat.eq_of_beq_eq_true hlen;have hpos':0<(T t).size:=Nat.le_of_ble_eq_true hpos;obtain ⟨vs,h2,h3,hK⟩:=oG _ _ _ _ _ hK;refine ⟨_,_,_,_,hK,aC.of_run fun C β ok s a w hr g1 g2 g3 g4 g5=>?_⟩;simp only [ho,Op.operands,List.map_cons,List.map_nil,List.cons.injEq,and_true] at g1 g5;have hx:=hr.eval x (g5 x (by simp));have hy:=hr.eval y (g5 y (by simp));rw [g1.1] at hx;rw [g1.2] at hy;obtain ⟨q1,q2⟩:=h1 β s.used ok w _ hy;generalize hvx:a.eval x=vx at hx;cases hx with
  | ptr _ _ b p1 p2=>
    have hne:cs≠[]:=by intro e;rw [e] at hlen';simp at hlen';omega
    obtain ⟨b',cur,Tb,e1,e2,e3,hrel⟩:=hr.storeCells (dst:=o.dst) g4 hne (fun j hj=>by
     obtain ⟨v',_,p⟩:=h3 j (by omega)
     exact ⟨v',by rw [g2 _ (qC id _ off j (by omega))];exact p⟩) (vs:=(a.eval y).cells.toList) (by simpa using q1) (fun j v x hv hx=>q2 j v x (by simpa using hv) hx) undef
    rw [p2] at e1;simp at e1;subst e1
    have hst:=ql (P:=P) w hf b off cur Tb e2 (a.eval y) (by rw [q1,hlen']) (by simpa using e3) (fun u hu=>by
     obtain ⟨j,hj⟩:=List.getElem?_of_mem hu;have hjl:j<cs.length:=by have:=(List.getElem?_eq_some_iff.1 hj).1;simp at this;omega
     exact (q2 j u cs[j] (by simpa using hj) (by simp)).2)
    exact ⟨undef,_,.inr ⟨by simp [execOp,ho,hvx,hst],rfl⟩,β,ok,hrel⟩
 ·rename_i id sz i off v;obtain ⟨sz',xs,hh,hK⟩:=bW hK;obtain ⟨hs,hK⟩:=ah hK;have hs':sz=sz':=Nat.eq_of_beq_eq_true hs;obtain ⟨d,⟨hw,x0,hx0,hK2⟩,h1⟩:=kU hK;have main:∀ (x':D),x'.cells.length=sz→off+d.cells.length≤sz→(∀ j,j<d.cells.length→x'.cells[off+j]?=d.cells[j]?)→(∀ j,j<sz→j<off∨off+d.cells.length≤j→x'.cells[j]?=x0.cells[j]?) →
    aC P o [.ael id sz i off,v] h .any [((id,0),some (.arr sz (xs.set i x')))] [(id,0)] []:=by
   intro x' hx' hfit hin hout;refine aC.of_run fun C β ok s a w hr g1 g2 g3 g4 g5=>?_
   simp only [ho,Op.operands,List.map_cons,List.map_nil,List.cons.injEq,and_true] at g1 g5;have hx:=hr.eval x (g5 x (by simp));have hy:=hr.eval y (g5 y (by simp));rw [g1.1] at hx;rw [g1.2] at hy;obtain ⟨q1,q2⟩:=(h1 β s.used ok w _ hy).cellsOf;obtain ⟨b,o',cur,Tb,n,cap,e1,e2,e3,hrel⟩:=hr.TU (dst:=o.dst) g4 (id:=id) (sz:=sz) (i:=i) (off:=off) (xs:=xs) (by rw [g2 _ (by simp),hh,hs']) hx0 (x':=x') (vs:=(a.eval y).cells.toList) (by simpa [q1] using hfit) hx'
    (fun j v' c hv hc=>by
     have hjl:j<d.cells.length:=(by rw [← q1];have:=(List.getElem?_eq_some_iff.1 hv).1;simpa using this);rw [hin j hjl] at hc
     exact q2 j v' c (by simpa using hv) hc) (fun j hjs hj=>hout j hjs (by simpa [q1] using hj)) undef
   generalize hvx:a.eval x=vx at hx;cases hx with
   | ael _ _ _ _ b2 o2 n2 cap2 p1 p2=>
     rw [p2] at e1;simp at e1;obtain ⟨⟨rfl,rfl⟩,rfl,rfl⟩:=e1
     have hst:=ql (P:=P) w hf b2 (o2+(i*sz+off)) cur Tb e2 (a.eval y) (by rw [q1,hw]) (by simpa using e3) (fun u hu=>by
      obtain ⟨j,hj⟩:=List.getElem?_of_mem hu;have hjl:j<d.cells.length:=by have:=(List.getElem?_eq_some_iff.1 hj).1;simp at this;omega
      exact (q2 j u d.cells[j] (by simpa using hj) (by simp)).2.1)
     exact ⟨undef,_,.inr ⟨by simp [execOp,ho,hvx,hst],rfl⟩,β,ok,hrel⟩
  rcases hK2 with ⟨rfl,hsz,hK3⟩ | ⟨cs,rfl,⟨hcs,hfit⟩,hK3⟩
  ·exact ⟨_,_,_,_,hK3,main d (by rw [hw,hsz]) (by omega) (fun j hj=>by rw [Nat.zero_add]) (fun j hjs hj=>by omega)⟩
  ·have hfit':off+d.cells.length≤cs.length:=(by omega);refine ⟨_,_,_,_,hK3,main _ ?_ (by omega) (fun j hj=>?_) (fun j hjs hj=>?_)⟩
   ·show (qo cs off d.cells).length=sz;simp [qo];omega
   ·show (qo cs off d.cells)[off+j]?=d.cells[j]?;unfold qo;rw [List.append_assoc,List.getElem?_append_right (by simp;omega),List.getElem?_append_left (by simp;omega)];congr 1;simp;omega
   ·show (qo cs off d.cells)[j]?=cs[j]?;unfold qo;rcases hj with hj | hj
    ·rw [List.append_assoc,List.getElem?_append_left (by simp;omega),List.getElem?_take_of_lt hj]
    ·rw [List.getElem?_append_right (by simp;omega),List.getElem?_drop];congr 1;simp;omega
 ·exact hK.elim
end
theorem Eo (off:Nat):∀ (l:List Value) (k:Nat) (cells:Array Value),off+k+l.length≤cells.size →
  (l.zipIdx k).foldl (fun cs (p:Value×Nat)=>cs.setIfInBounds (off+p.2) p.1) cells=patch cells (off+k) l
 | [],k,cells,h=>by simp [patch]
 | v::l,k,cells,h=>by
   simp only [List.length_cons] at h;have ih:=Eo off l (k+1) (cells.setIfInBounds (off+k) v) (by simp;omega);simp only [List.zipIdx_cons,List.foldl_cons];rw [ih];have e:=list_seg_step cells.toList (off+k) v l (by simp;omega);unfold patch;congr 1
   simpa [Array.toList_setIfInBounds,Nat.add_assoc] using e
theorem Ig (place:Nat→Option (Nat×Nat)) (cells:Array Value) (i off size:Nat) (v:Value) (rest:List (Nat×Value)) (hp:place i=some (off,size)) (hs:v.cells.size=size) (hfit:off+size≤cells.size) :
  Instr.fill place cells ((i,v)::rest)=Instr.fill place (patch cells off v.cells.toList) rest:=by
 have hf:=Eo off v.cells.toList 0 cells (by simpa [hs] using hfit);simp only [Nat.add_zero] at hf;have hc:(v.cells.size≠size||decide (off+v.cells.size>cells.size))=false:=by simp [hs];omega
 rw [Instr.fill,hp];simp only [hc];rw [if_neg (by simp)];congr 1;rw [← hf,← Array.foldl_toList,Array.toList_zipIdx]
def QH:Nat→List (Nat×Operand)→Bool
 | _,[]=>true
 | k,(i,_)::r=>Nat.beq i k&&QH (k+1) r
theorem MQ (sz:Nat) (f:Operand→Value):∀ (ps:List (Nat×Operand)) (k:Nat) (cells:Array Value),QH k ps=true→(∀ p∈ps,(f p.2).cells.size=sz)→(k+ps.length)*sz≤cells.size →
  ∃ r,Instr.fill (fun i=>some (i*sz,sz)) cells (ps.map fun p=>(p.1,f p.2))=some r∧r.size=cells.size∧(∀ q,q<k*sz→r[q]?=cells[q]?) ∧
    ∀ (i:Nat) (p:Nat×Operand) (j:Nat),ps[i]?=some p→j<sz→r[(k+i)*sz+j]?=(f p.2).cells[j]?
 | [],k,cells,_,_,_=>⟨cells,rfl,rfl,fun q hq=>rfl,fun i p j hp=>by simp at hp⟩
 | (i0,x)::ps,k,cells,ho,hw,hfit=>by
   simp only [QH,Bool.and_eq_true] at ho;have hi:i0=k:=Nat.eq_of_beq_eq_true ho.1;subst hi;simp only [List.length_cons] at hfit;have hx:=hw (i0,x) (by simp);simp only at hx;have hfit0:i0*sz+sz≤cells.size:=by
    have:=Nat.mul_le_mul_right sz (show i0+1≤i0+(ps.length+1) by omega);rw [Nat.succ_mul] at this;omega
   have hfit1:i0*sz+(f x).cells.toList.length≤cells.size:=(by simpa [hx] using hfit0);obtain ⟨r,h1,h2,h3,h4⟩:=MQ sz f ps (i0+1) (patch cells (i0*sz) (f x).cells.toList) ho.2 (fun p hp=>hw p (by simp [hp])) (by rw [fC hfit1];rw [show i0+1+ps.length=i0+(ps.length+1) by omega];exact hfit);refine ⟨r,?_,by rw [h2,fC hfit1],fun q hq=>?_,fun i p j hp hj=>?_⟩
   ·rw [List.map_cons,Ig _ cells i0 (i0*sz) sz (f x) _ rfl hx hfit0];exact h1
   ·rw [h3 q (by rw [Nat.succ_mul];omega),jg hfit1 (.inl hq)]
   ·cases i with
    | zero=>
      simp at hp;subst hp;rw [Nat.add_zero,h3 _ (by rw [Nat.succ_mul];omega),pz hfit1 (by simp [hx,hj])];simp
    | succ i=>
      rw [show i0+(i+1)=i0+1+i by omega];exact h4 i p j (by simpa using hp) hj
section
variable {P:Program} {T:Nat→TE}
def widths (sz:Nat):List D→Prop→Prop
 | [],p=>p
 | d::ds,p=>d.cells.length=sz∧widths sz ds p
theorem Ac {sz:Nat}:∀ {ds:List D} {p:Prop},widths sz ds p→(∀ d∈ds,d.cells.length=sz)∧p
 | [],p,h=>⟨by simp,h⟩
 | d::ds,p,h=>by
   obtain ⟨h1,h2⟩:=h;obtain ⟨h3,h4⟩:=Ac h2;exact ⟨by simpa [h1] using h3,h4⟩
def IZ:List V→(List D→Prop)→Prop
 | [],K=>K []
 | v::vs,K=>vD v fun d=>IZ vs fun ds=>K (d::ds)
theorem Ad:∀ {vs:List V} {K:List D→Prop},IZ vs K→∃ ds,K ds∧ds.length=vs.length ∧
  ∀ (β:Nat→Value) (u ok:Nat→Prop) (w:World) (j:Nat) val v d,vs[j]?=some v→ds[j]?=some d→RdV β u ok w val v→RdD ok w val d
 | [],K,h=>⟨[],h,rfl,fun β u ok w j val v d hv=>by simp at hv⟩
 | v::vs,K,h=>by
   unfold IZ at h;obtain ⟨x,h1,h2⟩:=kU h;obtain ⟨ds,h3,h4,h5⟩:=Ad h1;refine ⟨x::ds,h3,by simp [h4],fun β u ok w j val v' d hv hd hr=>?_⟩;cases j with
   | zero=>simp at hv hd;subst hv;subst hd;exact h2 β u ok w val hr
   | succ j=>exact h5 β u ok w j val v' d (by simpa using hv) (by simpa using hd) hr
def yM (T:Nat→TE) (mu:Bool) (t len:Nat) (parts:List (Nat×Operand)) (vals:List V) (n:Nat) (K:KK):Prop:=
 kX (T t) fun e=>aP (T e).known <| aP (QH 0 parts) <| aP (Nat.beq parts.length len) <| aP (Nat.blt 0 (T e).size) <| aP (Nat.ble (len*(T e).size) 16777216) <|
  match vals with
  | []=>K .emp [] [] []
  | vals=>IZ vals fun ds=>widths (T e).size ds (wH mu (K (.d (.list ds)) [] [] []) (K (.sl n (T e).size 0 ds.length) [((n,0),some (.arr (T e).size ds))] [] [n]))
theorem xq (hT:TOK P T) {mu:Bool} {o:Oper} {t len:Nat} {parts:Array (Nat×Operand)} (ho:o.op = .buildSlice t len parts) {vals:List V} {h:Key→Option Res} {n:Nat} {K:KK} (hK:yM T mu t len parts.toList vals n K) :
  ∃ x δ rd nw,K x δ rd nw∧aC P o vals h x δ rd nw:=by
 obtain ⟨e,hk,hK⟩:=fV hK;obtain ⟨hkn,hK⟩:=ah hK;obtain ⟨hord,hK⟩:=ah hK;obtain ⟨hlen,hK⟩:=ah hK;obtain ⟨hpos,hK⟩:=ah hK;obtain ⟨hbig,hK⟩:=ah hK;have hlen':parts.toList.length=len:=Nat.eq_of_beq_eq_true hlen;have hpos':0<(T e).size:=Nat.le_of_ble_eq_true hpos;have hbig':len*(T e).size≤16777216:=Nat.le_of_ble_eq_true hbig;have hu:=hT.slc hk;obtain ⟨de,ie,hfe⟩:=hT.facts (TE.bP hkn);have hbig2:¬ (16777216<len*(T e).size):=by omega
 have run:∀ (ρ:Operand→Value) (w:World),(∀ p∈parts.toList,(ρ p.2).cells.size=(T e).size)→∃ r:Array Value,r.size=len*(T e).size ∧
   (execOp ρ o).run P w = .ok (.value (.slice (some ⟨w.heap.size,0,none⟩) len len)) (w.alloc (.cells r e)) ∧
   ∀ (i:Nat) (p:Nat×Operand) (j:Nat),parts.toList[i]?=some p→j<(T e).size→r[i*(T e).size+j]?=(ρ p.2).cells[j]?:=fun ρ w hw=>by
  rcases Nat.eq_zero_or_pos len with h0 | h0
  ·have hp0:parts=#[]:=by
    have:parts.toList=[]:=List.length_eq_zero_iff.1 (by omega);exact Array.toList_eq_nil_iff.1 this
   subst hp0;subst h0;refine ⟨#[],by simp,?_,fun i p j hp=>by simp at hp⟩;simp [execOp,ho,Instr.buildSlice,run_underlying hu,hfe.sizeOf,newRow,Instr.fill,Array.range_zero']
  ·have hne:len*(T e).size≠0:=(by have:=Nat.mul_pos h0 hpos';omega);obtain ⟨r,f1,f2,_,f4⟩:=MQ (T e).size ρ parts.toList 0 ((Array.range (len*(T e).size)).map (fun q=>(T e).zero.cells[q % (T e).zero.cells.size]!)) hord hw (by simp [hlen']);refine ⟨r,by simp [f2],?_,fun i p j hp hj=>by have:=f4 i p j hp hj;simpa using this⟩;have f1':Instr.fill (fun i=>some (i*(T e).size,(T e).size)) ((Array.range (len*(T e).size)).map (fun q=>(T e).zero.cells[q % (T e).zero.cells.size]!)) (parts.map fun (p:Nat×Operand)=>(p.1,ρ p.2)).toList=some r:=by
    rw [Array.toList_map];exact f1
   have hz:(zeroValue e).run P w = .ok (T e).zero w:=(by simp [zeroValue,typeInfo,hfe.info,hfe.zero]);simp [execOp,ho,Instr.buildSlice,run_underlying hu,hfe.sizeOf,newRow,hbig2,hne,hz];have f1'':=f1';simp only [Array.toList_map] at f1'';simp [f1'']
 split at hK
 ·rename_i hvals;refine ⟨_,_,_,_,hK,aC.of_run fun C β ok s a w hr g1 g2 g3 g4 g5=>?_⟩;have hp0:parts.toList=[]:=by
   have:(parts.toList.map (·.2)).map s.ev=[]:=by simpa [ho,Op.operands] using g1
   simpa using this
  obtain ⟨r,r1,r2,_⟩:=run a.eval w (fun p hp=>by rw [hp0] at hp;cases hp);have hl0:len=0:=by rw [← hlen',hp0];rfl
  subst hl0;exact ⟨_,_,.inl r2,β,_,hr.box g4 (.emp _)⟩
 ·obtain ⟨ds,hK,h1,h2⟩:=Ad hK;obtain ⟨hw,hK⟩:=Ac hK;have core:∀ {C:Ctx} {β:Nat→Value} {ok:Nat→Prop} {s:S} {a:Act} {w:World},RelB C β ok s a w→o.op.operands.toList.map s.ev=vals→(∀ y∈o.op.operands.toList,okO y=true)→∃ r:Array Value,ds.length=len∧len≤maxLen∧r.size=len*(T e).size ∧
    (execOp a.eval o).run P w = .ok (.value (.slice (some ⟨w.heap.size,0,none⟩) len len)) (w.alloc (.cells r e)) ∧
    ∀ (i:Nat) x (j:Nat) c,ds[i]?=some x→x.cells[j]?=some c→∃ u0,r[i*(T e).size+j]?=some u0∧RdD ok w u0 c∧u0.oneCell'=true∧c.one=true:=by
   intro C β ok s a w hr g1 g5;simp only [ho,Op.operands] at g1 g5;have hvl:vals.length=parts.toList.length:=(by rw [← g1];simp);have hget:∀ (i:Nat) p d,parts.toList[i]?=some p→ds[i]?=some d→RdD ok w (a.eval p.2) d:=fun i p d hp hd=>by
    have hv:vals[i]?=some (s.ev p.2):=(by rw [← g1];simp [hp]);exact h2 β s.used ok w i _ _ d hv hd (hr.eval p.2 (g5 p.2 (by simp;exact ⟨p.1,by have:=List.mem_of_getElem? hp;simpa using this⟩)))
   have hwp:∀ p∈parts.toList,(a.eval p.2).cells.size=(T e).size:=fun p hp=>by
    obtain ⟨i,hi⟩:=List.getElem?_of_mem hp;have hil:i<ds.length:=(by rw [h1,hvl];exact (List.getElem?_eq_some_iff.1 hi).1);have hd:ds[i]?=some ds[i]:=(by simp);rw [(hget i p _ hi hd).cellsOf.1];exact hw _ (by simp)
   obtain ⟨r,r1,r2,r3⟩:=run a.eval w hwp;have hdl:ds.length=len:=(by rw [h1,hvl,hlen']);have hlm:len≤maxLen:=by
    have:len≤len*(T e).size:=Nat.le_mul_of_pos_right len hpos';simp only [maxLen];omega
   refine ⟨r,hdl,hlm,r1,r2,fun i x j c hx hc=>by
    have hil:i<parts.toList.length:=(by rw [hlen',← hdl];exact (List.getElem?_eq_some_iff.1 hx).1);have hp:parts.toList[i]?=some parts.toList[i]:=(by simp);have hj:j<(T e).size:=(by rw [← hw x (List.mem_of_getElem? hx)];exact (List.getElem?_eq_some_iff.1 hc).1);obtain ⟨q1,q2⟩:=(hget i _ x hp hx).cellsOf;have hjc:j<(a.eval parts.toList[i].2).cells.size:=(by rw [q1,hw x (List.mem_of_getElem? hx)];exact hj);have hu0:(a.eval parts.toList[i].2).cells[j]?=some ((a.eval parts.toList[i].2).cells[j]):=(by simp);obtain ⟨p1,p2⟩:=q2 j _ c hu0 hc
    exact ⟨_,by rw [r3 i _ j hp hj];exact hu0,p1,p2⟩⟩
  rcases oW hK with ⟨_,hK⟩ | ⟨_,hK⟩
  ·refine ⟨_,_,_,_,hK,aC.of_run fun C β ok s a w hr g1 g2 g3 g4 g5=>?_⟩;obtain ⟨r,hdl,hlm,r1,r2,r3⟩:=core hr g1 g5;refine ⟨_,_,.inl r2,β,_,hr.box g4 (.d _ _ ?_)⟩;rw [← hdl];refine .lst ⟨w.heap.size,0,none⟩ ds.length (T e).size ds (fun i j=>(r[i*(T e).size+j]?).getD undef) (.inr rfl) rfl (Nat.le_refl _) (by omega) hpos' (fun i x hx=>hw x (List.mem_of_getElem? hx)) (fun i x j c hx hc=>?_) (fun i x j c hx hc=>?_)
   ·obtain ⟨u0,p1,p2,p3,p4⟩:=r3 i x j c hx hc;rw [Nat.zero_add,ug,p1];exact ⟨rfl,p3,p4⟩
   ·obtain ⟨u0,p1,p2,p3,p4⟩:=r3 i x j c hx hc;rw [p1];exact p2.mono (iE hr.okb _) (fun _ h => .inl h)
  ·refine ⟨_,_,_,_,hK,aC.of_run fun C β ok s a w hr g1 g2 g3 g4 g5=>?_⟩;obtain ⟨r,hdl,hlm,r1,r2,r3⟩:=core hr g1 g5;obtain ⟨β',hrel⟩:=hr.UQ (dst:=o.dst) g4 (g3 n (by simp)) (cur:=r) e (sz:=(T e).size) (cap:=len) (xs:=ds) hpos' (by omega) hlm (fun i x hx=>hw x (List.mem_of_getElem? hx)) (by rw [r1];exact Nat.le_refl _) r3;rw [hdl] at hrel;rw [hdl];exact ⟨_,_,.inl r2,β',ok,hrel⟩
def AV (T:Nat→TE) (t:Nat) (vals:List V) (n:Nat) (K:KK):Prop:=
 kX (T t) fun e=>aP (T e).known <| aP (Nat.blt 0 (T e).size) <|
  match vals with
  | [l,c]=>Bc l fun _ li=>Bc c fun _ ci=>(0≤li∧li≤ci∧ci≤9223372036854775807∧((T e).bytes:Int)*ci≤281474976710656) ∧
    vD (EY (T e).zero) fun d=>aP (okC (T e).zero) <| d.cells.length=(T e).size∧K (.sl n (T e).size 0 li.toNat) [((n,0),some (.arr (T e).size (List.replicate li.toNat d)))] [] [n]
  | _=>False
theorem yI (hT:TOK P T) {o:Oper} {t:Nat} {l c:Operand} (ho:o.op = .makeSlice t l c) {vals:List V} {h:Key→Option Res} {n:Nat} {K:KK} (hK:AV T t vals n K) :
  ∃ x δ rd nw,K x δ rd nw∧aC P o vals h x δ rd nw:=by
 obtain ⟨e,hk,hK⟩:=fV hK;obtain ⟨hkn,hK⟩:=ah hK;obtain ⟨hpos,hK⟩:=ah hK;have hpos':0<(T e).size:=Nat.le_of_ble_eq_true hpos;have hu:=hT.slc hk;obtain ⟨de,ie,hfe⟩:=hT.facts (TE.bP hkn);split at hK
 ·rename_i vl vc;obtain ⟨kl,li,rfl,hK2⟩:=eU hK;obtain ⟨kc,ci,rfl,⟨h0,hlc,h63,hb⟩,hK3⟩:=eU hK2;obtain ⟨d,hK4,h1⟩:=kU hK3;obtain ⟨hz,hw,hK5⟩:=ah hK4;refine ⟨_,_,_,_,hK5,aC.of_run fun C β ok s a w hr g1 g2 g3 g4 g5=>?_⟩;simp only [ho,Op.operands,List.map_cons,List.map_nil,List.cons.injEq,and_true] at g1 g5;have hx:=hr.eval l (g5 l (by simp));have hy:=hr.eval c (g5 c (by simp));rw [g1.1] at hx;rw [g1.2] at hy;have hx':=hx.fB;have hy':=hy.fB;generalize hvl:a.eval l=vl at hx';generalize hvc:a.eval c=vc at hy';cases hx';cases hy';have hrun:=run_make (P:=P) w t e ie (T e).zero hu hfe.info hfe.zero kl kc li ci h0 hlc (by rw [hfe.bytes];exact hb) h63;have hzr:=h1 β s.used ok w _ (zi β s.used ok w (T e).zero hz);obtain ⟨q1,q2⟩:=hzr.cellsOf;have hrel:=hr.UQ (dst:=o.dst) g4 (g3 n (by simp)) (cur:=madeCells (T e).zero.cells (ci.toNat*ie.size)) e (sz:=(T e).size) (cap:=ci.toNat) (xs:=List.replicate li.toNat d) hpos' (by simp;omega) (by simp only [maxLen];omega)
   (fun i x hx=>by have:=List.mem_of_getElem? hx;rw [List.eq_of_mem_replicate this];exact hw) (by rw [size_madeCells,hfe.size];exact Nat.le_refl _) (fun i x j c hx hc=>by
    have hxd:x=d:=List.eq_of_mem_replicate (List.mem_of_getElem? hx);subst hxd;have hi:i<li.toNat:=(by have:=(List.getElem?_eq_some_iff.1 hx).1;simpa using this);have hj:j<(T e).size:=(by rw [← hw];exact (List.getElem?_eq_some_iff.1 hc).1);have hq:i*(T e).size+j<ci.toNat*(T e).size:=by
     have:=uQ (off:=j) (m:=1) (sz:=(T e).size) (show i<ci.toNat by omega) (by omega);omega
    have hjz:j<(T e).zero.cells.size:=(by rw [hfe.J9];exact hj);have hu0:(T e).zero.cells[j]?=some ((T e).zero.cells[j]):=(by simp [hjz]);obtain ⟨p1,p2⟩:=q2 j _ c hu0 hc;refine ⟨_,?_,p1,p2⟩;have hmod:(i*(T e).size+j) % (T e).zero.cells.size=j:=by rw [hfe.J9,Nat.mul_comm,Nat.mul_add_mod,Nat.mod_eq_of_lt hj]
    simp [madeCells,hfe.size,hq,hmod,hjz])
  obtain ⟨β',hrel⟩:=hrel;simp only [List.length_replicate] at hrel;exact ⟨_,_,.inl (by simp [execOp,ho,hvl,hvc,hrun]),β',ok,hrel⟩
 ·exact hK.elim
end
def kG (fs:List (Nat×Nat×Bool)) (f:Nat) (K:Nat→Nat→Bool→Prop):Prop:=
 match fs,f with
 | (fo,fsz,fb)::_,0=>K fo fsz fb
 | _::fs,f+1=>kG fs f K
 | [],_=>False
theorem vZ:∀ {fs:List (Nat×Nat×Bool)} {f:Nat} {K:Nat→Nat→Bool→Prop},kG fs f K→∃ fo fsz fb,fs[f]?=some (fo,fsz,fb)∧K fo fsz fb
 | (fo,fsz,fb)::fs,0,K,h=>⟨fo,fsz,fb,rfl,h⟩
 | _::fs,f+1,K,h=>by
   unfold kG at h;obtain ⟨fo,fsz,fb,h1,h2⟩:=vZ h;exact ⟨fo,fsz,fb,by simpa using h1,h2⟩
 | [],_,K,h=>by unfold kG at h;exact h.elim
def putAt:List V→Nat→List V→(List V→Prop)→Prop
 | cells,_,[],K=>K cells
 | _::cells,0,c::cs,K=>putAt cells 0 cs fun r=>K (c::r)
 | x::cells,off+1,cs,K=>putAt cells off cs fun r=>K (x::r)
 | [],_,_::_,_=>False
theorem wK:∀ (cells:List V) (off:Nat) (cs:List V) (K:List V→Prop),putAt cells off cs K→∃ r,K r∧r.length=cells.length∧(cs=[]∨off+cs.length≤cells.length) ∧
  (∀ j,j<cs.length→r[off+j]?=cs[j]?)∧∀ j,(j<off∨off+cs.length≤j)→r[j]?=cells[j]?
 | cells,off,[],K,h=>by
   have h':K cells:=(by unfold putAt at h;exact h);exact ⟨cells,h',rfl,.inl rfl,fun j hj=>by simp at hj,fun j _=>rfl⟩
 | x::cells,0,c::cs,K,h=>by
   unfold putAt at h;obtain ⟨r,h1,h2,h3,h4,h5⟩:=wK cells 0 cs _ h;refine ⟨c::r,h1,by simp [h2],.inr (by rcases h3 with rfl | h3<;>simp;simp at h3;omega),fun j hj=>?_,fun j hj=>?_⟩
   ·cases j with
    | zero=>rfl
    | succ j=>have:=h4 j (by simpa using hj);simpa using this
   ·cases j with
    | zero=>simp at hj
    | succ j=>have:=h5 j (by simp at hj ⊢;omega);simpa using this
 | x::cells,off+1,c::cs,K,h=>by
   unfold putAt at h;obtain ⟨r,h1,h2,h3,h4,h5⟩:=wK cells off (c::cs) _ h
   refine ⟨x::r,h1,by simp [h2],.inr (by
    rcases h3 with h3 | h3
    ·cases h3
    ·simp at h3 ⊢;omega),fun j hj=>?_,fun j hj=>?_⟩
   ·rw [show off+1+j=(off+j)+1 by omega];have:=h4 j hj;simpa using this
   ·cases j with
    | zero=>rfl
    | succ j=>have:=h5 j (by simp at hj ⊢;omega);simpa using this
 | [],_,_::_,K,h=>by unfold putAt at h;exact h.elim
def qO (fs:List (Nat×Nat×Bool)):List V→List (Nat×Operand)→List V→(List V→Prop)→Prop
 | cells,(i,_)::ps,v::vs,K=>kG fs i fun fo fsz fb=>qX fb v fun cs=>aP (Nat.blt 0 fsz) (aP (Nat.beq cs.length fsz) (putAt cells fo cs fun r=>qO fs r ps vs K))
 | cells,[],[],K=>K cells
 | _,_,_,_=>False
theorem Eu (fs:List (Nat×Nat×Bool)) (ρ:Operand→Value) (β:Nat→Value) (u ok:Nat→Prop) (w:World):∀ (ps:List (Nat×Operand)) (vs:List V) (cells:List V) (vcells:Array Value) (K:List V→Prop),
  qO fs cells ps vs K→vcells.size=cells.length→(∀ (j:Nat) u0 c,vcells[j]?=some u0→cells[j]?=some c→RdV β u ok w u0 c∧u0.oneCell'=true) →
  (∀ (i:Nat) p v,ps[i]?=some p→vs[i]?=some v→RdV β u ok w (ρ p.2) v) →
  ∃ r rv,K r∧Instr.fill (fun i=>(fs[i]?).map fun x=>(x.1,x.2.1)) vcells (ps.map fun p=>(p.1,ρ p.2))=some rv∧rv.size=r.length∧r.length=cells.length∧∀ (j:Nat) u0 c,rv[j]?=some u0→r[j]?=some c→RdV β u ok w u0 c∧u0.oneCell'=true
 | [],[],cells,vcells,K,h,hs,hc,_=>⟨cells,vcells,h,rfl,hs,rfl,hc⟩
 | (i,x)::ps,v::vs,cells,vcells,K,h,hs,hc,hv=>by
   unfold qO at h;obtain ⟨fo,fsz,fb,h1,h⟩:=vZ h;obtain ⟨cs,h,h2⟩:=qW h;obtain ⟨hpos,h⟩:=ah h;have hpos':0<fsz:=Nat.le_of_ble_eq_true hpos;obtain ⟨hl,h⟩:=ah h;have hl':cs.length=fsz:=Nat.eq_of_beq_eq_true hl;obtain ⟨r,h,g1,g2,g3,g4⟩:=wK _ _ _ _ h;obtain ⟨q1,q2⟩:=h2 β u ok w (ρ x) (hv 0 (i,x) v rfl rfl);have hcs:(ρ x).cells.size=fsz:=(by rw [q1,hl']);rcases g2 with g2 | g2
   ·subst g2;simp at hl';omega
   ·have hfit:fo+fsz≤vcells.size:=(by rw [hs,← hl'];exact g2);have hfit':fo+(ρ x).cells.toList.length≤vcells.size:=by simpa [hcs] using hfit
    obtain ⟨r',rv,p1,p2,p3,p4,p5⟩:=Eu fs ρ β u ok w ps vs r (patch vcells fo (ρ x).cells.toList) K h (by rw [fC hfit',hs,g1]) (fun j u0 c hu hcc=>by
     by_cases hj:fo≤j∧j<fo+fsz
     ·have e1:=pz hfit' (i:=j-fo) (by simp [hcs];omega);rw [show fo+(j-fo)=j by omega] at e1;rw [e1] at hu;have e2:=g3 (j-fo) (by omega);rw [show fo+(j-fo)=j by omega] at e2;rw [e2] at hcc;exact q2 (j-fo) u0 c (by simpa using hu) hcc
     ·rw [jg hfit' (by simp [hcs];omega)] at hu;rw [g4 j (by omega)] at hcc
      exact hc j u0 c hu hcc) (fun i p v hp hv'=>hv (i+1) p v (by simpa using hp) (by simpa using hv'))
    refine ⟨r',rv,p1,?_,p3,by rw [p4,g1],p5⟩;rw [List.map_cons,Ig _ vcells i fo fsz (ρ x) _ (by simp [h1]) hcs hfit];exact p2
 | [],v::vs,cells,vcells,K,h,_,_,_=>by unfold qO at h;exact h.elim
 | p::ps,[],cells,vcells,K,h,_,_,_=>by unfold qO at h;exact h.elim
section
variable {P:Program} {T:Nat→TE}
theorem Ij {fs:List (Nat×Nat×Bool)} {z:Value} {parts:List (Nat×Operand)} {vals:List V} {K:List V→Prop} (hz':∀ v∈z.cells.toList,wM v=true) (hK:qO fs (z.cells.toList.map cellC) parts vals K) :
  ∃ r,K r∧∀ (ρ:Operand→Value) (β:Nat→Value) (u ok:Nat→Prop) (w:World),(∀ (i:Nat) p v,parts[i]?=some p→vals[i]?=some v→RdV β u ok w (ρ p.2) v) →
    ∃ rv,Instr.fill (fun i=>(fs[i]?).map fun x=>(x.1,x.2.1)) z.cells (parts.map fun p=>(p.1,ρ p.2))=some rv∧rv.size=r.length∧∀ (j:Nat) u0 c,rv[j]?=some u0→r[j]?=some c→RdV β u ok w u0 c∧u0.oneCell'=true:=by
 have shape:∀ (ps:List (Nat×Operand)) (vs cells:List V) (K:List V→Prop),qO fs cells ps vs K→∃ r,K r∧qO fs cells ps vs fun r'=>r'=r:=by
  intro ps
  induction ps with
  | nil=>
    intro vs cells K hK;cases vs with
    | nil=>exact ⟨cells,hK,rfl⟩
    | cons v vs=>exact hK.elim
  | cons p ps ih=>
    intro vs cells K hK;cases vs with
    | nil=>exact hK.elim
    | cons v vs=>
      obtain ⟨i,x⟩:=p;have f3:∀ (fs:List (Nat×Nat×Bool)) (f:Nat) (K:Nat→Nat→Bool→Prop),kG fs f K→∃ a b c,K a b c∧∀ K':Nat→Nat→Bool→Prop,K' a b c→kG fs f K':=by
       intro fs
       induction fs with
       | nil=>intro f K hK;unfold kG at hK;exact hK.elim
       | cons y fs ihf=>
         intro f K hK;obtain ⟨fo,fsz,fb⟩:=y;cases f with
         | zero=>exact ⟨fo,fsz,fb,hK,fun K' h=>h⟩
         | succ f=>
           obtain ⟨a,b,c,h1,h2⟩:=ihf f K hK;exact ⟨a,b,c,h1,fun K' h=>h2 K' h⟩
      have mD:∀ (ds:List D) (K:List V→Prop),mapD ds K→K (ds.map .d):=fun ds K h=>uH h
      have mD':∀ (ds:List D) (K:List V→Prop),K (ds.map .d)→mapD ds K:=by
       intro ds
       induction ds with
       | nil=>intro K h;exact h
       | cons d ds ihd=>intro K h;exact ihd _ h
      have vC:∀ (fb:Bool) (v:V) (K:List V→Prop),qX fb v K→∃ cs,K cs∧∀ K':List V→Prop,K' cs→qX fb v K':=by
       intro fb v K hK;unfold qX at hK;split at hK
       ·split at hK
        ·exact ⟨_,hK,fun K' h=>h⟩
        ·obtain ⟨ds,rfl,hK2⟩:=qK hK;exact ⟨_,mD _ _ hK2,fun K' h=>mD' _ _ h⟩
        ·exact hK.elim
       ·split at hK
        ·exact ⟨_,hK.2,fun K' h=>⟨hK.1,h⟩⟩
        all_goals first | exact hK.elim | exact ⟨_,hK,fun K' h=>h⟩
      have pA:∀ (cells:List V) (off:Nat) (cs:List V) (K:List V→Prop),putAt cells off cs K→∃ r,K r∧∀ K':List V→Prop,K' r→putAt cells off cs K':=by
       intro cells
       induction cells with
       | nil=>
         intro off cs K hK;cases cs with
         | nil=>unfold putAt at hK;exact ⟨_,hK,fun K' h=>by unfold putAt;exact h⟩
         | cons c cs=>unfold putAt at hK;exact hK.elim
       | cons y cells ihc=>
         intro off cs K hK;cases cs with
         | nil=>unfold putAt at hK;exact ⟨_,hK,fun K' h=>by unfold putAt;exact h⟩
         | cons c cs=>
           cases off with
           | zero=>
             unfold putAt at hK;obtain ⟨r,h1,h2⟩:=ihc 0 cs _ hK;exact ⟨_,h1,fun K' h=>by unfold putAt;exact h2 _ h⟩
           | succ off=>
             unfold putAt at hK;obtain ⟨r,h1,h2⟩:=ihc off (c::cs) _ hK;exact ⟨_,h1,fun K' h=>by unfold putAt;exact h2 _ h⟩
      unfold qO at hK;obtain ⟨a,b,c,h1,h1'⟩:=f3 _ _ _ hK;obtain ⟨cs,h2,h2'⟩:=vC _ _ _ h1;obtain ⟨hb1,h3⟩:=ah h2;obtain ⟨hb2,h4⟩:=ah h3;obtain ⟨r0,h5,h5'⟩:=pA _ _ _ _ h4;obtain ⟨r,h6,h6'⟩:=ih vs r0 K h5;refine ⟨r,h6,?_⟩;unfold qO;refine h1' _ (h2' _ ?_);rw [hb1,hb2];exact h5' _ h6'
 obtain ⟨r,h1,h2⟩:=shape _ _ _ _ hK;refine ⟨r,h1,fun ρ β u ok w hv=>?_⟩
 obtain ⟨r',rv,p1,p2,p3,p4,p5⟩:=Eu fs ρ β u ok w parts vals _ z.cells _ h2 (by simp) (fun j u0 c hu hc=>by
  have hm:u0∈z.cells.toList:=by have:=Array.mem_of_getElem? hu;simpa using this
  simp [hu] at hc;subst hc;have:=hz' u0 hm
  exact ⟨xX _ _ _ _ _ this,by cases u0<;>simp_all [wM,Value.oneCell']⟩) hv
 subst p1;exact ⟨rv,p2,p3,p5⟩
def TE.isStr (e:TE):Bool:=match e.k with | .agg _=>true | _=>false
def QU (te:TE) (parts:List (Nat×Operand)) (vals:List V) (K:KK):Prop:=
 aP te.isStr <| aP (te.zero.cells.toList.all wM) <| qO te.fields (te.zero.cells.toList.map cellC) parts vals fun r=>K (DL r) [] [] []
theorem F5 (hT:TOK P T) {o:Oper} {t:Nat} {parts:Array (Nat×Operand)} (ho:o.op = .build t parts) {vals:List V} {h:Key→Option Res} {K:KK} (hK:QU (T t) parts.toList vals K) :
  ∃ x δ rd nw,K x δ rd nw∧aC P o vals h x δ rd nw:=by
 obtain ⟨hag,hK⟩:=ah hK;unfold TE.isStr at hag;obtain ⟨hz,hK⟩:=ah hK;have hz':∀ v∈(T t).zero.cells.toList,wM v=true:=List.all_eq_true.1 hz;obtain ⟨d,inf,hf⟩:=hT.facts (t:=t) (by intro e0;rw [e0] at hag;cases hag);obtain ⟨fields,rfl,hfs,hall⟩:∃ fields,d = .struct fields∧(T t).fields=fields.toList.map (fun f=>(f.offset,P.cellsOf f.type,oI P f.type))∧∀ f∈fields.toList,(P.info? f.type).isSome=true:=by
  have hk:=hf.k;cases d
  case struct fs=>
   simp only [kOf] at hk;split at hk
   ·rename_i hall;exact ⟨fs,rfl,by unfold TE.fields;rw [hk],fun f hf=>((Bool.and_eq_true _ _).mp (List.all_eq_true.1 hall f hf)).1⟩
   ·rw [hk] at hag;cases hag
  case array n e=>(simp only [kOf] at hk;split at hk<;>(rw [hk] at hag;cases hag))
  all_goals (simp [kOf] at hk;rw [hk] at hag;cases hag)
 have hplaces:∀ (fs:List Field),(∀ f∈fs,(P.info? f.type).isSome=true)→fs.mapM (fun f=>(P.info? f.type).map fun i=>(f.offset,i.size))=some (fs.map fun f=>(f.offset,P.cellsOf f.type)):=by
  intro fs
  induction fs with
  | nil=>intro _;rfl
  | cons f fs ih=>
    intro hs;have h1:=hs f (by simp);obtain ⟨i,hi⟩:=Option.isSome_iff_exists.1 h1;simp [List.mapM_cons,hi,ih (fun g hg=>hs g (by simp [hg])),Program.cellsOf]
 obtain ⟨r,h1,h2⟩:=Ij hz' hK;refine ⟨_,_,_,_,h1,aC.bJ fun β u ok w ρ e g1 g2 g3=>?_⟩;simp only [ho,Op.operands] at g1 g2
 obtain ⟨rv,p1,p2,p3⟩:=h2 ρ β u ok w (fun i p v hp hv=>by
  have hv':v=e p.2:=by
   rw [← g2] at hv;simp [hp] at hv;exact hv.symm
  rw [hv']
  exact g1 p.2 (by simp;exact ⟨p.1,by have:=List.mem_of_getElem? hp;simpa using this⟩))
 have hb:P.built t (parts.map fun (p:Nat×Operand)=>(p.1,ρ p.2)).toList=some rv:=by
  unfold Program.built;rw [hf.info,hf.und];simp only [hf.zero,hplaces _ hall];rw [Array.toList_map];rw [← p1];congr 1;funext i;simp [hfs];cases fields[i]?<;>rfl
 exact ⟨.agg rv,by simp [execOp,ho,run_build (P:=P) w t _ rv hb],rV p2 (fun j v c hv hc=>(p3 j v c hv hc).1) (fun j v hv=>by
  have hj:j<r.length:=by rw [← p2];exact (Array.getElem?_eq_some_iff.1 hv).1
  exact (p3 j v r[j] hv (by simp)).2)⟩
def IQ (sz:Nat) (agg:Bool):Nat→Nat→List (Nat×Nat×Bool)
 | _,0=>[]
 | off,n+1=>(off,sz,agg)::IQ sz agg (off+sz) n
theorem IL {sz:Nat} {agg:Bool}:∀ {n off i:Nat} {x:Nat×Nat×Bool},(IQ sz agg off n)[i]?=some x→x=(off+i*sz,sz,agg)
 | 0,off,i,x,h=>by simp [IQ] at h
 | n+1,off,0,x,h=>by simp [IQ] at h;rw [← h];simp
 | n+1,off,i+1,x,h=>by
   have:=IL (n:=n) (off:=off+sz) (i:=i) (by simpa [IQ] using h);rw [this,Nat.succ_mul];congr 1;omega
theorem Ih {p q:Nat→Option (Nat×Nat)} (hpq:∀ i x,p i=some x→q i=some x):∀ (l:List (Nat×Value)) (cells:Array Value) (r:Array Value),Instr.fill p cells l=some r→Instr.fill q cells l=some r
 | [],cells,r,h=>h
 | (i,v)::l,cells,r,h=>by
   unfold Instr.fill at h ⊢;split at h
   ·cases h
   ·rename_i off size hp;rw [hpq _ _ hp];simp only;split at h
    ·cases h
    ·rename_i hc;rw [if_neg hc];exact Ih hpq l _ r h
def MX (T:Nat→TE) (t n e:Nat) (parts:List (Nat×Operand)) (vals:List V) (K:KK):Prop:=
 aP ((T e).known&&(T t).zero.cells.toList.all wM) <| qO (IQ (T e).size (T e).k.isAgg 0 n) ((T t).zero.cells.toList.map cellC) parts vals fun r=>K (DL r) [] [] []
theorem EN (hT:TOK P T) {o:Oper} {t n e:Nat} {parts:Array (Nat×Operand)} (ho:o.op = .build t parts) (hk:(T t).k = .arr n e) {vals:List V} {h:Key→Option Res} {K:KK} (hK:MX T t n e parts.toList vals K) :
  ∃ x δ rd nw,K x δ rd nw∧aC P o vals h x δ rd nw:=by
 obtain ⟨hb,hK⟩:=ah hK;simp only [Bool.and_eq_true] at hb;have hz':∀ v∈(T t).zero.cells.toList,wM v=true:=List.all_eq_true.1 hb.2;obtain ⟨d,inf,hf⟩:=hT.facts (t:=t) (by rw [hk];intro e0;cases e0);obtain ⟨de,ie,hfe⟩:=hT.facts (TE.bP hb.1);have hd:d = .array n e:=by
  have hd:=hf.k;rw [hk] at hd;cases d
  case array n' e'=>
   simp only [kOf] at hd;split at hd
   ·cases hd;rfl
   ·cases hd
  case struct fs=>(simp only [kOf] at hd;split at hd<;>cases hd)
  all_goals simp [kOf] at hd
 subst hd;obtain ⟨r,h1,h2⟩:=Ij hz' hK;refine ⟨_,_,_,_,h1,aC.bJ fun β u ok w ρ e' g1 g2 g3=>?_⟩;simp only [ho,Op.operands] at g1 g2
 obtain ⟨rv,p1,p2,p3⟩:=h2 ρ β u ok w (fun i p v hp hv=>by
  have hv':v=e' p.2:=by
   rw [← g2] at hv;simp [hp] at hv;exact hv.symm
  rw [hv']
  exact g1 p.2 (by simp;exact ⟨p.1,by have:=List.mem_of_getElem? hp;simpa using this⟩))
 have hb:P.built t (parts.map fun (p:Nat×Operand)=>(p.1,ρ p.2)).toList=some rv:=by
  unfold Program.built;rw [hf.info,hf.und];simp only [hf.zero,hfe.info];rw [Array.toList_map];refine Ih (fun i x hx=>?_) _ _ _ p1;simp only [Option.map_eq_some_iff] at hx;obtain ⟨y,hy,rfl⟩:=hx;rw [IL hy,hfe.size];simp
 exact ⟨.agg rv,by simp [execOp,ho,run_build (P:=P) w t _ rv hb],rV p2 (fun j v c hv hc=>(p3 j v c hv hc).1) (fun j v hv=>by
  have hj:j<r.length:=by rw [← p2];exact (Array.getElem?_eq_some_iff.1 hv).1
  exact (p3 j v r[j] hv (by simp)).2)⟩
end
section
variable {P:Program} {T:Nat→TE}
def Zt (op:UnOp) (vals:List V) (K:KK):Prop:=
 match vals with
 | [.d x]=>unD op x fun d=>K (.d d) [] [] []
 | _=>False
theorem Ph {o:Oper} {op:UnOp} {t:Nat} {x:Operand} (ho:o.op = .unOp op t x) {vals:List V} {h:Key→Option Res} {K:KK} (hK:Zt op vals K) :
  ∃ x δ rd nw,K x δ rd nw∧aC P o vals h x δ rd nw:=by
 unfold Zt at hK;split at hK
 ·rename_i d0;have key:∃ d,K (.d d) [] [] []∧unD op d0 fun d'=>d'=d:=by
   cases op<;>simp only [unD] at hK<;>try exact hK.elim
   ·obtain ⟨k,n,rfl,h2⟩:=gB hK;cases k<;>first | exact ⟨_,h2.2,h2.1,rfl⟩ | exact ⟨_,h2,rfl⟩
   ·obtain ⟨b,rfl,h2⟩:=iK hK;exact ⟨_,h2,rfl⟩
  obtain ⟨d,h1,h2⟩:=key;refine ⟨_,_,_,_,h1,aC.bJ fun β u ok w ρ e g1 g2 g3=>?_⟩;simp only [ho,Op.operands,List.map_cons,List.map_nil,List.cons.injEq,and_true] at g1 g2;have hx:=g1 x (by simp);rw [g2] at hx;obtain ⟨d',v',f1,f2,rfl⟩:=WR (P:=P) op hx.fB h2;exact ⟨v',by simp [execOp,ho,f1],.d _ _ f2⟩
 ·exact hK.elim
def Pn (src dst:TK) (vals:List V) (K:KK):Prop:=
 match vals with
 | [.d x]=>Iz src dst x fun d=>K (.d d) [] [] []
 | _=>False
theorem JQ (hT:TOK P T) {o:Oper} {src dst:Nat} {x:Operand} (ho:o.op = .convert src dst x) {vals:List V} {h:Key→Option Res} {K:KK} (hK:Pn (T src).k (T dst).k vals K) :
  ∃ x δ rd nw,K x δ rd nw∧aC P o vals h x δ rd nw:=by
 unfold Pn at hK;split at hK
 ·rename_i d0;have key:∀ a b:TK,Iz a b d0 (fun d=>K (.d d) [] [] [])→∃ d,K (.d d) [] [] []∧Iz a b d0 fun d'=>d'=d:=by
   intro a b hK;cases a<;>cases b<;>simp only [Iz] at hK ⊢<;>try exact hK.elim
   rename_i k1 k2;obtain ⟨k',n,rfl,h2⟩:=gB hK;cases k2<;>first | exact ⟨_,h2.2,h2.1,rfl⟩ | exact ⟨_,h2,rfl⟩
  obtain ⟨d,h1,h2⟩:=key _ _ hK;refine ⟨_,_,_,_,h1,aC.bJ fun β u ok w ρ e g1 g2 g3=>?_⟩;simp only [ho,Op.operands,List.map_cons,List.map_nil,List.cons.injEq,and_true] at g1 g2;have hx:=g1 x (by simp);rw [g2] at hx;obtain ⟨d',v',f1,f2,rfl⟩:=RQ (P:=P) hT hx.fB h2;exact ⟨v',by simp [execOp,ho,f1],.d _ _ f2⟩
 ·exact hK.elim
def Vy (te:TE) (vals:List V) (K:KK):Prop:=
 match te.k with
 | .slc _=>match vals with
   | [.d x]=>zV x fun xs=>K (.d (.int .i64 xs.length)) [] [] []
   | [.sl _ _ _ len]=>K (.d (.int .i64 len)) [] [] []
   | [.aG]=>K (.d (.int .i64 0)) [] [] []
   | [.emp]=>K (.d (.int .i64 0)) [] [] []
   | [.rsl _ len]=>K (.d (.int .i64 len)) [] [] []
   | _=>False
 | .str=>match vals with
   | [.d x]=>IK x fun s=>K (.d (.int .i64 s.length)) [] [] []
   | _=>False
 | _=>False
theorem MW (hT:TOK P T) {o:Oper} {t:Nat} {x:Operand} (ho:o.op = .call { callee := .builtin .len,args:=#[x],argTypes:=#[t] }) {vals:List V} {h:Key→Option Res} {K:KK} (hK:Vy (T t) vals K) :
  ∃ x δ rd nw,K x δ rd nw∧aC P o vals h x δ rd nw:=by
 unfold Vy at hK;have fin:∀ (vx:V) (n:Nat),vals=[vx]→(∀ β u ok w v,RdV β u ok w v vx→(Builtin.len_ #[t] o.type #[v]).run P w = .ok (.int .i64 n) w)→K (.d (.int .i64 n)) [] [] []→∃ x δ rd nw,K x δ rd nw∧aC P o vals h x δ rd nw:=by
  intro vx n hv hrun hK;refine ⟨_,_,_,_,hK,aC.bJ fun β u ok w ρ e g1 g2 g3=>?_⟩;simp only [ho,Op.operands,Call.operands,hv] at g1 g2;simp at g1 g2;rw [g2] at g1;have:=hrun β u ok w _ g1;exact ⟨_,by simp [execOp,ho,resolve,invoke,builtin,this],.d _ _ (.int _ _)⟩
 split at hK
 ·rename_i e hk;have hu:=hT.slc hk;have hl:∀ (w:World) a n c,(Builtin.len_ #[t] o.type #[.slice a n c]).run P w = .ok (.int .i64 n) w:=fun w a n c=>by
   simp [Builtin.len_,run_underlying hu,goInt]
  split at hK
  ·obtain ⟨xs,rfl,hK2⟩:=iJ hK;refine fin _ _ rfl (fun β u ok w v hv=>?_) hK2;have:=hv.fB;cases this<;>exact hl _ _ _ _
  ·refine fin _ _ rfl (fun β u ok w v hv=>?_) hK;cases hv;exact hl _ _ _ _
  ·refine fin _ 0 rfl (fun β u ok w v hv=>?_) hK;cases hv;exact hl _ _ _ _
  ·refine fin _ 0 rfl (fun β u ok w v hv=>?_) hK;cases hv;exact hl _ _ _ _
  ·refine fin _ _ rfl (fun β u ok w v hv=>?_) hK;cases hv;exact hl _ _ _ _
  ·exact hK.elim
 ·rename_i hk;split at hK
  ·obtain ⟨s,rfl,hK2⟩:=iI hK;obtain ⟨d,inf,hf⟩:=hT.facts (t:=t) (by rw [hk];intro e;cases e);have hd:=hf.k;rw [hk] at hd;rw [nK.2.1 hd.symm] at hf;refine fin _ _ rfl (fun β u ok w v hv=>?_) hK2;have:=hv.fB;cases this;have e:(⟨s.toArray⟩:ByteArray).size=s.length:=(by simp [ByteArray.size]);simp [Builtin.len_,run_underlying hf.und,goInt,e]
  ·exact hK.elim
 ·exact hK.elim
def QY (sz:Nat) (v:V) (h:Key→Option Res) (K:List D→Option Nat→List Key→Prop):Prop:=
 match v with
 | .aG=>K [] none []
 | .emp=>K [] none []
 | .sl id sz' off len=>jw (h (id,0)) fun sz2 xs=>aP (Nat.beq sz' sz&&Nat.beq sz2 sz) (∃ ds,(xs.drop off).take len=ds∧off+len≤xs.length∧K ds (some id) [(id,0)])
 | _=>False
def TY (sz:Nat) (v:V) (h:Key→Option Res) (K:List D→List Key→Prop):Prop:=
 match v with
 | .aG=>K [] []
 | .emp=>K [] []
 | .d x=>zV x fun ys=>(∀ y∈ys,y.cells.length=sz)∧K ys []
 | .sl id sz' off len=>jw (h (id,0)) fun sz2 xs=>aP (Nat.beq sz' sz&&Nat.beq sz2 sz) (∃ ds,(xs.drop off).take len=ds∧off+len≤xs.length∧K ds [(id,0)])
 | _=>False
theorem EU {sz:Nat} {v:V} {h:Key→Option Res} {K:List D→Option Nat→List Key→Prop} (hp:0<sz) (hK:QY sz v h K):∃ ds rm rd,K ds rm rd ∧
  ∀ (C:Ctx) (β:Nat→Value) (ok:Nat→Prop) (s:S) (a:Act) (w:World) val,RelB C β ok s a w→(∀ k∈rd,s.hp k=h k)→RdV β s.used ok w val v →
    bT ok w val sz ds∧∀ b,aB val=some b→∃ id xs,rm=some id∧s.hp (id,0)=some (.arr sz xs)∧aB (β id)=some b:=by
 have nil:∀ (ok:Nat→Prop) (w:World) (a:Option Addr),bT ok w (.slice a 0 0) sz []:=fun ok w a=>⟨a,0,rfl,by simp,by simp [maxLen],hp,by simp,fun h=>by omega⟩
 have nb:∀ (a:Option Addr) b,aB (.slice a 0 0)≠some b:=fun a b hb=>by cases a<;>simp [aB] at hb
 unfold QY at hK;split at hK
 ·exact ⟨_,_,_,hK,fun C β ok s a w val hr hrd hv=>by cases hv;exact ⟨nil _ _ _,fun b hb=>absurd hb (nb _ _)⟩⟩
 ·exact ⟨_,_,_,hK,fun C β ok s a w val hr hrd hv=>by cases hv;exact ⟨nil _ _ _,fun b hb=>absurd hb (nb _ _)⟩⟩
 ·rename_i id sz' off len;obtain ⟨sz2,xs,hh,hK⟩:=bW hK;obtain ⟨hb,ds,rfl,hl,hK5⟩:=ah hK;simp only [Bool.and_eq_true] at hb;have e1:sz'=sz:=Nat.eq_of_beq_eq_true hb.1;have e2:sz2=sz:=Nat.eq_of_beq_eq_true hb.2;subst e1;subst e2;refine ⟨_,_,_,hK5,fun C β ok s a w val hr hrd hv=>?_⟩;have hsp:s.hp (id,0)=some (.arr sz2 xs):=(hrd (id,0) (by simp)).trans hh;obtain ⟨_,_,ho⟩:=hr.heap _ _ hsp;obtain ⟨g1,g2⟩:=ho.sub hv hl;exact ⟨g1,fun b hb=>⟨id,xs,rfl,hsp,g2 b hb⟩⟩
 ·exact hK.elim
theorem N7 {sz:Nat} {v:V} {h:Key→Option Res} {K:List D→List Key→Prop} (hK:TY sz v h K):∃ ds rd,K ds rd ∧
  ∀ (C:Ctx) (β:Nat→Value) (ok:Nat→Prop) (s:S) (a:Act) (w:World) val,RelB C β ok s a w→(∀ k∈rd,s.hp k=h k)→RdV β s.used ok w val v→Src ok w val sz ds:=by
 have nil:∀ (ok:Nat→Prop) (w:World) (a:Option Addr),Src ok w (.slice a 0 0) sz []:=fun ok w a=>⟨a,0,rfl,by simp,fun h=>by simp at h⟩
 unfold TY at hK;split at hK
 ·exact ⟨_,_,hK,fun C β ok s a w val hr hrd hv=>by cases hv;exact nil _ _ _⟩
 ·exact ⟨_,_,hK,fun C β ok s a w val hr hrd hv=>by cases hv;exact nil _ _ _⟩
 ·obtain ⟨ys,rfl,hw,hK2⟩:=iJ hK;exact ⟨_,_,hK2,fun C β ok s a w val hr hrd hv=>Src.Xc hv.fB (fun i x hx=>hw x (List.mem_of_getElem? hx))⟩
 ·rename_i id sz' off len;obtain ⟨sz2,xs,hh,hK⟩:=bW hK;obtain ⟨hb,ds,rfl,hl,hK5⟩:=ah hK;simp only [Bool.and_eq_true] at hb;have e1:sz'=sz:=Nat.eq_of_beq_eq_true hb.1;have e2:sz2=sz:=Nat.eq_of_beq_eq_true hb.2;subst e1;subst e2;refine ⟨_,_,hK5,fun C β ok s a w val hr hrd hv=>?_⟩;have hsp:s.hp (id,0)=some (.arr sz2 xs):=(hrd (id,0) (by simp)).trans hh;exact Src.Du hv (hr.heap _ _ hsp).2.2 hl
 ·exact hK.elim
def Nb (T:Nat→TE) (t:Nat) (vals:List V) (h:Key→Option Res) (n:Nat) (K:KK):Prop:=
 kX (T t) fun e=>aP (T e).known <| aP (Nat.blt 0 (T e).size&&Nat.blt 0 (T e).bytes) <|
  match vals with
  | [d,x]=>QY (T e).size d h fun ds rm rd=>TY (T e).size x h fun ys rd'=>
    ((ds.length+ys.length)*(T e).bytes≤140737488355328)∧K (.sl n (T e).size 0 (ds.length+ys.length)) (((n,0),some (.arr (T e).size (ds++ys)))::pX rm) (rd++rd') [n]
  | _=>False
theorem EO (hT:TOK P T) {o:Oper} {t:Nat} {d x:Operand} (ho:o.op = .call { callee := .builtin .append,args:=#[d,x],argTypes:=#[t,t] }) {vals:List V} {h:Key→Option Res} {n:Nat} {K:KK} (hK:Nb T t vals h n K) :
  ∃ x δ rd nw,K x δ rd nw∧aC P o vals h x δ rd nw:=by
 obtain ⟨e,hk,hK⟩:=fV hK;obtain ⟨hkn,hK⟩:=ah hK;obtain ⟨hpos,hK⟩:=ah hK;simp only [Bool.and_eq_true] at hpos;have hp1:0<(T e).size:=Nat.le_of_ble_eq_true hpos.1;have hp2:0<(T e).bytes:=Nat.le_of_ble_eq_true hpos.2;split at hK
 ·obtain ⟨ds,rm,rd,hK,h1⟩:=EU hp1 hK;obtain ⟨ys,rd',⟨hb,hK⟩,h2⟩:=N7 hK;refine ⟨_,_,_,_,hK,aC.of_run fun C β ok s a w hr g1 g2 g3 g4 g5=>?_⟩;simp only [ho,Op.operands,Call.operands] at g1 g5;simp at g1 g5;have hd:=hr.eval d g5.1;have hx:=hr.eval x g5.2;rw [g1.1] at hd;rw [g1.2] at hx;obtain ⟨q1,q2⟩:=h1 C β ok s a w _ hr (fun k hk=>g2 k (by simp [hk])) hd;have q3:=h2 C β ok s a w _ hr (fun k hk=>g2 k (by simp [hk])) hx;have hlen:ds.length+ys.length≤(ds.length+ys.length)*(T e).bytes:=Nat.le_mul_of_pos_right _ hp2;obtain ⟨β',v',w',hrun,hrel⟩:=hr.append hT (dst:=o.dst) g4 (ty:=o.type) hk (TE.bP hkn) q1 q3 q2 (m:=n) (g3 n (by simp)) (by simp only [maxLen];omega) hb;exact ⟨v',w',.inl (by simp [execOp,ho,resolve,invoke,builtin,hrun]),β',ok,hrel⟩
 ·exact hK.elim
end
section
variable {P:Program} {T:Nat→TE}
def bnd (there:Bool) (vs:List V) (K:Option Int→List V→Prop):Prop:=
 match there with
 | true=>match vs with
   | v::vs=>Bc v fun _ n=>K (some n) vs
   | []=>False
 | false=>K none vs
theorem Fj {x:Option Operand} {xs:List Operand} {e:Operand→V} {vs:List V} {K:Option Int→List V→Prop} (hv:(x.toList++xs).map e=vs) (h:bnd x.isSome vs K) :
  ∃ n,K n (xs.map e)∧∀ (β:Nat→Value) (u ok:Nat→Prop) (w:World) (ρ:Operand→Value),(∀ y∈x.toList,RdV β u ok w (ρ y) (e y))→∃ k,x.map ρ=n.map (Value.int k):=by
 subst hv;cases x with
 | none=>exact ⟨none,h,fun β u ok w ρ _=>⟨.i64,rfl⟩⟩
 | some y=>
   simp only [bnd,Option.isSome_some,Option.toList_some,List.cons_append,List.nil_append,List.map_cons] at h;obtain ⟨k,n,he,hK⟩:=eU h;refine ⟨some n,hK,fun β u ok w ρ hr=>⟨k,?_⟩⟩;have:=hr y (by simp);rw [he] at this;have h2:=this.fB;simp only [Option.map_some];generalize ρ y=v at h2;cases h2;rfl
def Yx (agg:Bool) (r:List D) (K:D→Prop):Prop:=match agg with | true=>K (.agg r) | false=>MC r K
def Fb (agg:Bool) (cs:List D) (sz:Nat):Nat→Nat→(List D→Prop)→Prop
 | _,0,K=>K []
 | off,k+1,K=>cut cs off sz fun r=>Yx agg r fun d=>Fb agg cs sz (off+sz) k fun ds=>K (d::ds)
def ones (cs:List D):Bool:=cs.all D.one
theorem uf {agg:Bool} {cs:List D} {sz:Nat} (h1:∀ c∈cs,D.one c=true):∀ {k off:Nat} {K:List D→Prop},Fb agg cs sz off k K →
  ∃ ds,K ds∧ds.length=k∧∀ (i:Nat) d,ds[i]?=some d→(D.cells d).length=sz∧∀ j,j<sz→cs[off+(i*sz+j)]?=(D.cells d)[j]?
 | 0,off,K,h=>⟨[],h,rfl,fun i d hd=>by simp at hd⟩
 | k+1,off,K,h=>by
   unfold Fb at h;obtain ⟨r,hr,hc,h⟩:=mF _ _ _ _ h;have he:∃ d,(Fb agg cs sz (off+sz) k fun ds=>K (d::ds))∧D.cells d=r:=by
    unfold Yx at h;split at h
    ·exact ⟨_,h,rfl⟩
    ·obtain ⟨c,rfl,h⟩:=wU h;refine ⟨c,h,?_⟩;have h0:sz=1:=(by simpa using hr.symm);subst h0;have:=hc 0 (by omega);have hm:=h1 c (List.mem_of_getElem? (by simpa using this));cases c<;>first | rfl | cases hm
   obtain ⟨d,h,hd⟩:=he;obtain ⟨ds,hK,hl,hg⟩:=uf h1 h;refine ⟨d::ds,hK,by simp [hl],fun i d' hi=>?_⟩;cases i with
   | zero=>
     simp only [List.getElem?_cons_zero,Option.some.injEq] at hi;subst hi;rw [hd];exact ⟨hr,fun j hj=>by rw [Nat.zero_mul,Nat.zero_add];exact hc j hj⟩
   | succ i=>
     obtain ⟨g1,g2⟩:=hg i d' (by simpa using hi);exact ⟨g1,fun j hj=>by rw [← g2 j hj];congr 1;rw [Nat.succ_mul];omega⟩
def BO (T:Nat→TE) (t:Nat) (lo hi mx:Bool) (vals:List V) (K:KK):Prop:=
 match vals with
 | x::vs=>bnd lo vs fun l vs1=>bnd hi vs1 fun h vs2=>bnd mx vs2 fun m _=>
   match (T t).k with
   | .str=>match x with
     | .d y=>IK y fun s=>m=none∧(0≤l.getD 0∧l.getD 0≤h.getD s.length∧h.getD s.length≤s.length)∧K (.d (.str ((s.take (h.getD s.length).toNat).drop (l.getD 0).toNat))) [] [] []
     | _=>False
   | .slc e=>aP (T e).known <|
     match m with
     | some m=>(m=0∧h=some 0∧l.getD 0=0)∧(match x with
       | .d y=>zV y fun _=>K .emp [] [] []
       | .sl _ _ _ _=>K .emp [] [] []
       | .aG=>K .emp [] [] []
       | .emp=>K .emp [] [] []
       | _=>False)
     | none=>match x with
       | .d y=>zV y fun xs=>(0≤l.getD 0∧l.getD 0≤h.getD xs.length∧h.getD xs.length≤xs.length)∧(∀ y∈xs,y.cells.length=(T e).size)∧K (.d (.list ((xs.take (h.getD xs.length).toNat).drop (l.getD 0).toNat))) [] [] []
       | .sl id sz off len=>aP (Nat.beq sz (T e).size) ((0≤l.getD 0∧l.getD 0≤h.getD len∧h.getD len≤len)∧K (.sl id sz (off+(l.getD 0).toNat) ((h.getD len).toNat-(l.getD 0).toNat)) [] [] [])
       | .emp=>(l.getD 0=0∧h.getD 0=0)∧K .emp [] [] []
       | .aG=>(l.getD 0=0∧h.getD 0=0)∧K .emp [] [] []
       | _=>False
   | .arr n e=>aP ((T e).known&&(Nat.blt 0 (T e).size&&Nat.ble n 1000000)) <| match x with
     | .d y=>NC y fun cs off=>(m=none∧0≤l.getD 0∧l.getD 0≤h.getD n∧h.getD n≤n)∧aP (ones cs) (Fb (T e).k.isAgg cs (T e).size (off+(l.getD 0).toNat*(T e).size) ((h.getD n).toNat-(l.getD 0).toNat) fun ds=>K (.d (.list ds)) [] [] [])
     | _=>False
   | _=>False
 | []=>False
theorem iU (hT:TOK P T) {t e:Nat} (hk:(T t).k = .slc e) (he:(T e).k ≠ .none) (w:World) (a:Option Addr) (len cap:Nat) (kl kh:IntKind) (l h:Option Int) (h0:0≤l.getD 0) (h1:l.getD 0≤h.getD len) (h2:h.getD len≤cap) :
  (Instr.sliceAt t (.slice a len cap) (l.map (.int kl)) (h.map (.int kh)) none).run P w =
   .ok (.slice (if cap=(l.getD 0).toNat then a else a.map (·.add ((l.getD 0).toNat*(T e).size))) ((h.getD len).toNat-(l.getD 0).toNat) (cap-(l.getD 0).toNat)) w:=by
 have hu:=hT.slc hk;obtain ⟨de,ie,hfe⟩:=hT.facts he;cases l with
 | none=>cases h with
   | none=>
     simp at h1 h2;simp [Instr.sliceAt,Instr.slice,run_underlying hu,Instr.sliceBounds,hfe.sizeOf]
   | some h=>
     simp at h1 h2;simp [Instr.sliceAt,Instr.slice,run_underlying hu,Instr.sliceBounds,Instr.sliceBound,asIntOf,hfe.sizeOf,h1,h2]
 | some l=>cases h with
   | none=>
     simp at h0 h1 h2;simp [Instr.sliceAt,Instr.slice,run_underlying hu,Instr.sliceBounds,Instr.sliceBound,asIntOf,hfe.sizeOf,h0,h1]
   | some h=>
     simp at h0 h1 h2;have h3:0≤h:=(by omega);have h4:l≤max h 0:=(by omega);simp [Instr.sliceAt,Instr.slice,run_underlying hu,Instr.sliceBounds,Instr.sliceBound,asIntOf,hfe.sizeOf,h0,h2,h3,h4]
theorem CV (hT:TOK P T) {t e:Nat} (hk:(T t).k = .slc e) (he:(T e).k ≠ .none) (w:World) (a:Option Addr) (len cap:Nat) (kl kh km:IntKind) (l:Option Int) (h0:l.getD 0=0) :
  (Instr.sliceAt t (.slice a len cap) (l.map (.int kl)) (some (.int kh 0)) (some (.int km 0))).run P w = .ok (.slice a 0 0) w:=by
 have hu:=hT.slc hk;obtain ⟨de,ie,hfe⟩:=hT.facts he;cases l with
 | none=>simp [Instr.sliceAt,Instr.slice,run_underlying hu,Instr.sliceBounds,Instr.sliceBound,asIntOf,hfe.sizeOf]
 | some l=>
   simp at h0;subst h0;simp [Instr.sliceAt,Instr.slice,run_underlying hu,Instr.sliceBounds,Instr.sliceBound,asIntOf,hfe.sizeOf]
theorem FM (hT:TOK P T) {t n e:Nat} (hk:(T t).k = .arr n e) (he:(T e).k ≠ .none) (w:World) (a:Addr) (kl kh:IntKind) (l h:Option Int) (h0:0≤l.getD 0) (h1:l.getD 0≤h.getD n) (h2:h.getD n≤n) :
  (Instr.sliceAt t (.pointer (some a)) (l.map (.int kl)) (h.map (.int kh)) none).run P w =
   .ok (.slice (some (if n=(l.getD 0).toNat then a else a.add ((l.getD 0).toNat*(T e).size))) ((h.getD n).toNat-(l.getD 0).toNat) (n-(l.getD 0).toNat)) w:=by
 have hu:P.underlying t=some (.array n e):=by
  obtain ⟨d,i,hf⟩:=hT.facts (t:=t) (by rw [hk];intro e;cases e);have hd:=hf.k;rw [hk] at hd;cases d
  case array n' e'=>
   simp only [kOf] at hd;split at hd
   ·cases hd;exact hf.und
   ·cases hd
  case struct fs=>(simp only [kOf] at hd;split at hd<;>cases hd)
  all_goals simp [kOf] at hd
 obtain ⟨de,ie,hfe⟩:=hT.facts he;cases l with
 | none=>cases h with
   | none=>
     simp at h1 h2;simp [Instr.sliceAt,run_underlying hu,Instr.sureAddr,Instr.sliceBounds,hfe.sizeOf]
   | some h=>
     simp at h1 h2;simp [Instr.sliceAt,run_underlying hu,Instr.sureAddr,Instr.sliceBounds,Instr.sliceBound,asIntOf,hfe.sizeOf,h1,h2]
 | some l=>cases h with
   | none=>
     simp at h0 h1 h2;simp [Instr.sliceAt,run_underlying hu,Instr.sureAddr,Instr.sliceBounds,Instr.sliceBound,asIntOf,hfe.sizeOf,h0,h1]
   | some h=>
     simp at h0 h1 h2;have h3:0≤h:=(by omega);have h4:l≤max h 0:=(by omega);simp [Instr.sliceAt,run_underlying hu,Instr.sureAddr,Instr.sliceBounds,Instr.sliceBound,asIntOf,hfe.sizeOf,h0,h2,h3,h4]
theorem FV (hT:TOK P T) {o:Oper} {t:Nat} {x:Operand} {lo hi mx:Option Operand} (ho:o.op = .slice t x lo hi mx) {vals:List V} {h:Key→Option Res} {K:KK}
  (hK:BO T t lo.isSome hi.isSome mx.isSome vals K):∃ x δ rd nw,K x δ rd nw∧aC P o vals h x δ rd nw:=by
 by_cases hvals:∃ e:Operand→V,(x::(lo.toList++(hi.toList++mx.toList))).map e=vals
 case neg=>
  unfold BO at hK;have any:∀ (y:V) δ rd nw,aC P o vals h y δ rd nw:=fun y δ rd nw C s a w _ h1=>by
   exfalso;refine hvals ⟨s.ev,?_⟩;rw [← h1,ho];cases lo<;>cases hi<;>cases mx<;>simp [Op.operands]
  split at hK
  ·rename_i x0 vs;have pick:∀ (b:Bool) (vs:List V) (K:Option Int→List V→Prop),bnd b vs K→∃ n vs',K n vs':=fun b vs K hb=>by
    unfold bnd at hb;split at hb
    ·split at hb
     ·obtain ⟨k,n,_,hK⟩:=eU hb;exact ⟨_,_,hK⟩
     ·exact hb.elim
    ·exact ⟨_,_,hb⟩
   obtain ⟨l,vs1,hK⟩:=pick _ _ _ hK;obtain ⟨hh,vs2,hK⟩:=pick _ _ _ hK;obtain ⟨m,vs3,hK⟩:=pick _ _ _ hK;split at hK
   ·split at hK
    ·obtain ⟨s,rfl,_,_,hK2⟩:=iI hK;exact ⟨_,_,_,_,hK2,any _ _ _ _⟩
    ·exact hK.elim
   ·obtain ⟨_,hK⟩:=ah hK;split at hK
    ·obtain ⟨_,hK⟩:=hK;split at hK
     ·obtain ⟨s,rfl,hK2⟩:=iJ hK;exact ⟨_,_,_,_,hK2,any _ _ _ _⟩
     all_goals first | exact ⟨_,_,_,_,hK,any _ _ _ _⟩ | exact hK.elim
    ·split at hK
     ·obtain ⟨s,rfl,_,_,hK2⟩:=iJ hK;exact ⟨_,_,_,_,hK2,any _ _ _ _⟩
     ·obtain ⟨_,_,hK⟩:=ah hK;exact ⟨_,_,_,_,hK,any _ _ _ _⟩
     ·exact ⟨_,_,_,_,hK.2,any _ _ _ _⟩
     ·exact ⟨_,_,_,_,hK.2,any _ _ _ _⟩
     ·exact hK.elim
   ·obtain ⟨_,hK⟩:=ah hK;split at hK
    ·obtain ⟨cs,off,rfl,_,hK⟩:=mM hK;obtain ⟨h1,hK⟩:=ah hK;obtain ⟨ds,hK,_⟩:=uf (List.all_eq_true.1 h1) hK;exact ⟨_,_,_,_,hK,any _ _ _ _⟩
    ·exact hK.elim
   ·exact hK.elim
  ·exact hK.elim
 case pos=>
  obtain ⟨e0,rfl⟩:=hvals;unfold BO at hK;simp only [List.map_cons] at hK;obtain ⟨l,hK1,b1⟩:=Fj (e:=e0) (x:=lo) (xs:=hi.toList++mx.toList) rfl hK;obtain ⟨hh,hK2,b2⟩:=Fj (e:=e0) (x:=hi) (xs:=mx.toList) rfl hK1;obtain ⟨m,hK3,b3⟩:=Fj (e:=e0) (x:=mx) (xs:=[]) (by simp) hK2
  have fit:∀ (res:V) (rd:List Key),(∀ (β:Nat→Value) (u ok:Nat→Prop) (w:World) (vx:Value) (kl kh km:IntKind),RdV β u ok w vx (e0 x) →
    ∃ v,(Instr.sliceAt t vx (l.map (.int kl)) (hh.map (.int kh)) (m.map (.int km))).run P w = .ok v w∧RdV β u ok w v res)→aC P o ((x::(lo.toList++(hi.toList++mx.toList))).map e0) h res [] rd []:=fun res rd H=>
   aC.bJ fun β u ok w ρ e g1 g2 g3=>by
    have hops:o.op.operands.toList=x::(lo.toList++(hi.toList++mx.toList)):=by
     rw [ho];cases lo<;>cases hi<;>cases mx<;>simp [Op.operands]
    rw [hops] at g1 g2;have ee:∀ y∈x::(lo.toList++(hi.toList++mx.toList)),e y=e0 y:=fun y hy=>List.map_inj_left.1 g2 y hy
    have g1':∀ y∈x::(lo.toList++(hi.toList++mx.toList)),RdV β u ok w (ρ y) (e0 y):=fun y hy=>by rw [← ee y hy];exact g1 y hy
    obtain ⟨kl,c1⟩:=b1 β u ok w ρ (fun y hy=>g1' y (by simp [hy]));obtain ⟨kh,c2⟩:=b2 β u ok w ρ (fun y hy=>g1' y (by simp [hy]));obtain ⟨km,c3⟩:=b3 β u ok w ρ (fun y hy=>g1' y (by simp [hy]));obtain ⟨v,r1,r2⟩:=H β u ok w (ρ x) kl kh km (g1' x (by simp));exact ⟨v,by simp only [execOp,ho,c1,c2,c3];rw [Sem.run_bind,r1];rfl,r2⟩
  generalize hx0:e0 x=x0 at hK3 fit;split at hK3
  ·rename_i hk;split at hK3
   ·obtain ⟨s,rfl,rfl,⟨d1,d2,d3⟩,hK4⟩:=iI hK3;refine ⟨_,_,_,_,hK4,fit _ _ fun β u ok w vx kl kh km hv=>?_⟩;obtain ⟨v',r1,r2⟩:=FK (w:=w) (kl:=kl) (kh:=kh) (lo:=l) (hi:=hh) hT hk hv.fB (fun l' e=>by subst e;simpa using d1) (fun h' e=>by subst e;simpa using d3) d2;exact ⟨v',r1,.d _ _ r2⟩
   ·exact hK3.elim
  ·rename_i e hk;obtain ⟨hkn,hK3⟩:=ah hK3;have hke:=TE.bP hkn;split at hK3
   ·rename_i m0;obtain ⟨⟨rfl,rfl,d0⟩,hK3⟩:=hK3;have zero:∀ (vx:Value),(∃ a n c,vx = .slice a n c)→∀ (β:Nat→Value) (u ok:Nat→Prop) (w:World) (kl kh km:IntKind),∃ v,(Instr.sliceAt t vx (l.map (.int kl)) ((some (0:Int)).map (.int kh)) ((some (0:Int)).map (.int km))).run P w = .ok v w∧RdV β u ok w v .emp:=
     fun vx ⟨a,n,c,e'⟩ β u ok w kl kh km=>by
      subst e';exact ⟨_,CV hT hk hke w a n c kl kh km l d0,.emp _⟩
    split at hK3
    ·obtain ⟨s,rfl,hK4⟩:=iJ hK3;exact ⟨_,_,_,_,hK4,fit _ _ fun β u ok w vx kl kh km hv=>zero vx (by cases hv.fB<;>exact ⟨_,_,_,rfl⟩) β u ok w kl kh km⟩
    ·exact ⟨_,_,_,_,hK3,fit _ _ fun β u ok w vx kl kh km hv=>zero vx (by cases hv;exact ⟨_,_,_,rfl⟩) β u ok w kl kh km⟩
    ·exact ⟨_,_,_,_,hK3,fit _ _ fun β u ok w vx kl kh km hv=>zero vx (by cases hv;exact ⟨_,_,_,rfl⟩) β u ok w kl kh km⟩
    ·exact ⟨_,_,_,_,hK3,fit _ _ fun β u ok w vx kl kh km hv=>zero vx (by cases hv;exact ⟨_,_,_,rfl⟩) β u ok w kl kh km⟩
    ·exact hK3.elim
   ·split at hK3
    ·obtain ⟨xs,rfl,⟨d1,d2,d3⟩,dw,hK4⟩:=iJ hK3;refine ⟨_,_,_,_,hK4,fit _ _ fun β u ok w vx kl kh km hv=>?_⟩;have hv':=hv.fB;have lenle:∀ n:Nat,hh.getD n≤n→0≤l.getD 0→l.getD 0≤hh.getD n→((xs.take (hh.getD n).toNat).drop (l.getD 0).toNat).length=min (hh.getD n).toNat xs.length-(l.getD 0).toNat:=fun n _ _ _=>by simp
     cases hv' with
     | lC a=>
       refine ⟨_,iU hT hk hke w a 0 0 kl kh l hh d1 d2 (by simpa using d3),.d _ _ ?_⟩;simp at d2 d3 ⊢;have e1:(l.getD 0).toNat=0:=(by omega);have e2:(hh.getD 0).toNat=0:=(by omega);rw [e1,e2];exact .lC _
     | lst a cap sz _ us q1 q2 q3 q4 q5 q6 q7 q8=>
       refine ⟨_,iU hT hk hke w (some a) xs.length cap kl kh l hh d1 d2 (by omega),.d _ _ ?_⟩;have qa:∀ n,ok (a.add n).block∧(a.add n).spot=none:=fun n=>by
        unfold Addr.add;split
        ·exact ⟨q1,q2⟩
        ·exact ⟨q1,rfl⟩
       have hlen:=lenle xs.length d3 d1 d2;have hl2:((xs.take (hh.getD xs.length).toNat).drop (l.getD 0).toNat).length=(hh.getD ↑xs.length).toNat-(l.getD 0).toNat:=(by rw [hlen];congr 1;omega);rw [← hl2];have hget:∀ (i:Nat) y,((xs.take (hh.getD xs.length).toNat).drop (l.getD 0).toNat)[i]?=some y→xs[(l.getD 0).toNat+i]?=some y:=fun i y hy=>by
        rw [List.getElem?_drop,List.getElem?_take] at hy;split at hy
        ·exact hy
        ·cases hy
       by_cases hz:((xs.take (hh.getD xs.length).toNat).drop (l.getD 0).toNat)=[]
       ·rw [hz];have:=RdD.lst (ok:=ok) (w:=w) (if cap=(l.getD 0).toNat then a else a.add ((l.getD 0).toNat*(T e).size)) (cap-(l.getD 0).toNat) 1 [] (fun _ _=>undef) (by split<;>first | exact q1 | exact (qa _).1) (by split<;>first | exact q2 | exact (qa _).2) (by simp) (by omega) (by omega) (by simp) (by simp) (by simp);split
        ·rename_i hc;rw [if_pos hc] at this;exact this
        ·rename_i hc;rw [if_neg hc] at this;exact this
       ·obtain ⟨y,hy⟩:=List.exists_mem_of_ne_nil _ hz;obtain ⟨i,hi⟩:=List.getElem?_of_mem hy;have hxi:=hget i y hi;have hszE:sz=(T e).size:=(by rw [← q6 _ _ hxi];exact dw y (List.mem_of_getElem? hxi));have hlt:(l.getD 0).toNat<cap:=(by have:=(List.getElem?_eq_some_iff.1 hxi).1;omega);rw [if_neg (by omega)];obtain ⟨b,o',sp⟩:=a;simp only at q2;subst q2;simp only [Option.map_some,Addr.add_lit];refine .lst ⟨b,o'+(l.getD 0).toNat*(T e).size,none⟩ _ sz _ (fun i j=>us ((l.getD 0).toNat+i) j) q1 rfl (by rw [hl2];omega) (by omega) q5 (fun i y hy=>q6 _ _ (hget i y hy)) (fun i y j c hy hc=>?_) (fun i y j c hy hc=>q8 _ _ j c (hget i y hy) hc);have:=q7 _ _ j c (hget i y hy) hc;rw [← hszE];simp only at this ⊢
        rwa [show o'+(l.getD 0).toNat*sz+(i*sz+j)=o'+(((l.getD 0).toNat+i)*sz+j) by rw [Nat.add_mul];omega]
    ·rename_i id sz off len _;obtain ⟨hs,⟨d1,d2,d3⟩,hK4⟩:=ah hK3;have hs':sz=(T e).size:=Nat.eq_of_beq_eq_true hs;refine ⟨_,_,_,_,hK4,fit _ _ fun β u ok w vx kl kh km hv=>?_⟩;cases hv with
     | sl _ _ _ _ n cap a0 a q1 q2 q3 q4 q5=>
       refine ⟨_,iU hT hk hke w a len (cap-off) kl kh l hh d1 d2 (by omega),?_⟩;rw [show cap-off-(l.getD 0).toNat=cap-(off+(l.getD 0).toNat) by omega];refine .sl id sz _ _ n cap a0 _ q1 q2 (by omega) q4 (fun hc=>?_);obtain ⟨b,o',f1,f2⟩:=q5 (by omega);refine ⟨b,o',f1,?_⟩;rw [if_neg (by omega),f2];simp only [Option.map_some,Addr.add_lit,← hs',Nat.add_mul,Nat.add_assoc]
    ·obtain ⟨⟨d1,d2⟩,hK4⟩:=hK3;refine ⟨_,_,_,_,hK4,fit _ _ fun β u ok w vx kl kh km hv=>?_⟩;cases hv with
     | emp a=>
       refine ⟨_,iU hT hk hke w a 0 0 kl kh l hh (by omega) (by simp only [Int.natCast_zero];omega) (by simp only [Int.natCast_zero];omega),?_⟩;simp only [Int.natCast_zero,d1,d2];exact .emp _
    ·obtain ⟨⟨d1,d2⟩,hK4⟩:=hK3;refine ⟨_,_,_,_,hK4,fit _ _ fun β u ok w vx kl kh km hv=>?_⟩;cases hv with
     | aG=>
       refine ⟨_,iU hT hk hke w none 0 0 kl kh l hh (by omega) (by simp only [Int.natCast_zero];omega) (by simp only [Int.natCast_zero];omega),?_⟩;simp only [Int.natCast_zero,d1,d2];exact .emp _
    ·exact hK3.elim
  ·rename_i n e hk;obtain ⟨hb,hK3⟩:=ah hK3;simp only [Bool.and_eq_true] at hb;have hke:=TE.bP hb.1;have hpos:0<(T e).size:=Nat.le_of_ble_eq_true hb.2.1;have hn:n≤1000000:=Nat.le_of_ble_eq_true hb.2.2;split at hK3
   ·obtain ⟨cs,off,rfl,⟨rfl,d1,d2,d3⟩,hK4⟩:=mM hK3;obtain ⟨h1,hK4⟩:=ah hK4;obtain ⟨ds,hK5,hl,hg⟩:=uf (List.all_eq_true.1 h1) hK4;refine ⟨_,_,_,_,hK5,fit _ _ fun β u ok w vx kl kh km hv=>?_⟩;cases hv.fB with
    | ref b o' _ _ us q1 q2 q3=>
      refine ⟨_,FM hT hk hke w _ kl kh l hh d1 d2 d3,.d _ _ ?_⟩;rw [← hl];by_cases hc:n=(l.getD 0).toNat
      ·have h0:ds=[]:=List.length_eq_zero_iff.1 (by omega);subst h0;rw [show n-(l.getD 0).toNat=0 by omega];exact .lC _
      ·rw [if_neg hc,Addr.add_lit];refine .lst ⟨b,o'+off+(l.getD 0).toNat*(T e).size,none⟩ _ (T e).size _ (fun i j=>us (off+(l.getD 0).toNat*(T e).size+(i*(T e).size+j))) q1 rfl (by omega) (by simp only [maxLen];omega) hpos (fun i x hx=>(hg i x hx).1) (fun i x j c hx hcx=>?_) (fun i x j c hx hcx=>?_)
       all_goals
        have hj:j<(T e).size:=(by rw [← (hg i x hx).1];exact (List.getElem?_eq_some_iff.1 hcx).1);have:=(hg i x hx).2 j hj;rw [hcx] at this
       ·have:=q2 _ _ this
        rwa [show o'+off+(l.getD 0).toNat*(T e).size+(i*(T e).size+j)=o'+(off+(l.getD 0).toNat*(T e).size+(i*(T e).size+j)) by omega]
       ·exact q3 _ _ this
   ·exact hK3.elim
  ·exact hK3.elim
end
end Go.Abs
