/- The evaluator of one operation on abstract values, and its soundness: values, loads, stores. -/
import Derived.Test.YtbhfbliodeagmaaGreatDoorAbsAAnd
import Derived.MapKept
import Derived.WideKeyRuns
set_option linter.all false
namespace Go.Abs
open Go Go.RowKit
abbrev KK:=V→List (Key×Option Res)→List Key→List Nat→Prop
def aP (P:Program) (o:Oper) (vals:List V) (h:Key→Option Res) (x:V) (δ:List (Key×Option Res)) (rd:List Key) (news:List Nat):Prop:=
 ∀ (C:Ctx) (s:S) (a:Act) (w:World),Rel C s a w→o.op.operands.toList.map s.ev=vals→(∀ k∈rd,s.hp k=h k)→(∀ i∈news,¬ s.used i)→(∀ d,o.dst=some d→d<C.nt) →
   (∀ y∈o.op.operands.toList,okO y=true)→∀ (K:Act→World→Prop) (Q:Exit→Act→World→Prop),(∀ a' w',Rel C (s.apply o.dst x δ news) a' w'→K a' w')→o.wp P a w K Q
theorem aP.of_run {P:Program} {o:Oper} {vals:List V} {h:Key→Option Res} {x:V} {δ:List (Key×Option Res)} {rd:List Key} {news:List Nat}
  (H:∀ (C:Ctx) (β:Nat→Value) (ok:Nat→Prop) (s:S) (a:Act) (w:World),RelB C β ok s a w→o.op.operands.toList.map s.ev=vals→(∀ k∈rd,s.hp k=h k)→(∀ i∈news,¬ s.used i)→(∀ d,o.dst=some d→d<C.nt) →
   (∀ y∈o.op.operands.toList,okO y=true)→∃ v w',((execOp a.eval o).run P w = .ok (.value v) w'∨(execOp a.eval o).run P w = .ok .skip w'∧v=undef)∧Rel C (s.apply o.dst x δ news) (a.put o.dst v) w'):aP P o vals h x δ rd news:=by
 rintro C s a w ⟨β,ok,hr⟩ h1 h2 h3 h4 h5 K Q hK
 obtain ⟨v,w',hrun,hrel⟩:=H C β ok s a w hr h1 h2 h3 h4 h5
 unfold Oper.wp
 rcases hrun with hrun | ⟨hrun,rfl⟩
 ·rw [hrun];exact hK _ _ hrel
 ·rw [hrun];exact hK _ _ hrel
theorem aP.dD {P:Program} {o:Oper} {vals:List V} {h:Key→Option Res} {x:V} {rd:List Key}
  (H:∀ (β:Nat→Value) (u ok:Nat→Prop) (w:World) (ρ:Operand→Value) (e:Operand→V),(∀ y∈o.op.operands.toList,RdV β u ok w (ρ y) (e y))→o.op.operands.toList.map e=vals →
   (∀ k∈rd,∀ r,h k=some r→Own β u ok w k r) →
   ∃ v,(execOp ρ o).run P w = .ok (.value v) w∧RdV β u ok w v x):aP P o vals h x [] rd []:=by
 refine aP.of_run fun C β ok s a w hr h1 h2 h3 h4 h5=>?_
 obtain ⟨v,hv1,hv2⟩:=H β s.used ok w a.eval s.ev (fun y hy=>hr.eval y (h5 y hy)) h1 (fun k hk r hkr=>(hr.heap k r (by rw [h2 k hk];exact hkr)).2)
 exact ⟨v,w,.inl hv1,β,ok,hr.put h4 hv2⟩
theorem RdV.fB {β:Nat→Value} {u ok:Nat→Prop} {w:World} {v:Value} {x:D} (h:RdV β u ok w v (.d x)):RdD ok w v x:=by
 cases h;assumption
def vD1 (v:V) (K:D→Prop):Prop:=
 match v with
 | .d x=>K x
 | .aj=>K (.list [])
 | .emp=>K (.list [])
 | _=>False
def vDs (vs:List V) (K:List D→Prop):Prop:=
 match vs with
 | []=>K []
 | v::vs=>vD1 v fun d=>vDs vs fun ds=>K (d::ds)
def vD (v:V) (K:D→Prop):Prop:=
 match v with
 | .agg cs=>vDs cs fun ds=>K (.agg ds)
 | v=>vD1 v K
section
variable {P:Program} {T:Nat→TE}
def PU (vals:List V) (K:KK):Prop:=
 match vals with
 | [c,x,y]=>La c fun b=>uT b (K x [] [] []) (K y [] [] [])
 | _=>False
theorem Jz {o:Oper} {c x y:Operand} (ho:o.op = .pick c x y) {vals:List V} {h:Key→Option Res} {K:KK} (hK:PU vals K) :
  ∃ x δ rd nw,K x δ rd nw∧aP P o vals h x δ rd nw:=by
 unfold PU at hK
 split at hK
 ·rename_i vc vx vy
  obtain ⟨b,rfl,hK2⟩:=uN hK
  rcases oz hK2 with ⟨rfl,hK3⟩ | ⟨rfl,hK3⟩
  all_goals
   refine ⟨_,_,_,_,hK3,aP.dD fun β u ok w ρ e h1 h2 h3=>?_⟩
   simp only [ho,Op.operands,List.map_cons,List.map_nil,List.cons.injEq,and_true] at h1 h2
   obtain ⟨e1,e2,e3⟩:=h2
   have hc:=h1 c (by simp)
   rw [e1] at hc
   have hc':=hc.fB
   generalize hvc:ρ c=vc at hc'
   cases hc'
  ·exact ⟨ρ x,by simp [execOp,ho,hvc,Go.asBool],by rw [← e2];exact h1 x (by simp)⟩
  ·exact ⟨ρ y,by simp [execOp,ho,hvc,Go.asBool],by rw [← e3];exact h1 y (by simp)⟩
 ·exact hK.elim
def JA (vals:List V) (K:KK):Prop:=
 match vals with
 | [x]=>K x [] [] []
 | _=>False
theorem xH {o:Oper} {x:Operand} (ho:o.op = .move x∨o.op = .assign x) {vals:List V} {h:Key→Option Res} {K:KK} (hK:JA vals K) :
  ∃ x δ rd nw,K x δ rd nw∧aP P o vals h x δ rd nw:=by
 unfold JA at hK
 split at hK
 ·rename_i vx
  refine ⟨_,_,_,_,hK,aP.dD fun β u ok w ρ e h1 h2 h3=>?_⟩
  rcases ho with ho | ho <;>
  ·simp only [ho,Op.operands,List.map_cons,List.map_nil,List.cons.injEq,and_true] at h1 h2
   exact ⟨ρ x,by simp [execOp,ho],by rw [← h2];exact h1 x (by simp)⟩
 ·exact hK.elim
def zf (i:Nat) (vals:List V) (K:KK):Prop:=
 match vals with
 | [.tuple vs]=>match vs[i]? with
   | some v=>K v [] [] []
   | none=>False
 | _=>False
theorem AB {o:Oper} {x:Operand} {i:Nat} (ho:o.op = .extract x i) {vals:List V} {h:Key→Option Res} {K:KK} (hK:zf i vals K) :
  ∃ x δ rd nw,K x δ rd nw∧aP P o vals h x δ rd nw:=by
 unfold zf at hK
 split at hK
 ·split at hK
  ·rename_i vs v hv
   refine ⟨_,_,_,_,hK,aP.dD fun β u ok w ρ e h1 h2 h3=>?_⟩
   simp only [ho,Op.operands,List.map_cons,List.map_nil,List.cons.injEq,and_true] at h1 h2
   have hx:=h1 x (by simp)
   rw [h2] at hx
   generalize hvx:ρ x=vx at hx
   cases hx with
   | tuple us cs g1 g2=>
     have hi:i<us.size:=by rw [g1];exact (List.getElem?_eq_some_iff.1 hv).1
     have hu:us[i]?=some us[i]:=by simp [hi]
     exact ⟨us[i],by simp [execOp,ho,hvx,Instr.extract,hi],g2 i _ v hu hv⟩
  ·exact hK.elim
 ·exact hK.elim
def DZ (fn:Fn) (n:Nat) (vals:List V) (K:KK):Prop:=K (.func fn (vals.take n) (vals.drop n)) [] [] []
theorem y9 {o:Oper} {fn:Fn} {first captured:Array Operand} (ho:o.op = .makeFunc fn first captured) {vals:List V} {h:Key→Option Res} {K:KK} (hK:DZ fn first.size vals K) :
  ∃ x δ rd nw,K x δ rd nw∧aP P o vals h x δ rd nw:=by
 refine ⟨_,_,_,_,hK,aP.dD fun β u ok w ρ e h1 h2 h3=>?_⟩
 simp only [ho,Op.operands,Array.toList_append,List.map_append] at h1 h2
 subst h2
 refine ⟨.func fn (first.map ρ) (captured.map ρ),by simp [execOp,ho,Instr.makeFunc],.func _ _ _ _ _ (by simp) (by simp) (fun i v x hv hx=>?_) (fun i v x hv hx=>?_)⟩
 ·have hi:i<first.size:=by have:=(Array.getElem?_eq_some_iff.1 hv).1;simpa using this
  rw [List.getElem?_take_of_lt hi,List.getElem?_append_left (by simpa using hi)] at hx
  simp [hi] at hv hx
  subst hv;subst hx
  exact h1 _ (by simp)
 ·have hi:i<captured.size:=by have:=(Array.getElem?_eq_some_iff.1 hv).1;simpa using this
  rw [List.getElem?_drop,List.getElem?_append_right (by simp)] at hx
  simp [hi] at hv hx
  subst hv;subst hx
  exact h1 _ (by simp)
def UC (op:BinOp) (b:Bool) (K:D→Prop):Prop:=
 match op with
 | .eql=>K (.bool b)
 | .neq=>K (.bool (!b))
 | _=>False
def KF (op:BinOp) (ks:List SK) (x y:D) (K:D→Prop):Prop:=
 asAgg x fun cx=>asAgg y fun cy=>bD (!ks.isEmpty) (bD (fK ks cx) (bD (fK ks cy) (UC op (aW cx cy) K)))
theorem uX (hT:TOK P T) {op:BinOp} {t:Nat} (hk:(T t).k.isAgg=true) {x y:D} {K:D→Prop} (h:KF op (T t).ks x y K) (ox oy:Operand) :
  ∃ d,K d∧∀ (ok:Nat→Prop) (w:World) (vx vy:Value),RdD ok w vx x→RdD ok w vy y→∃ v,(do eqGuard op t ox oy vx vy;binOp op t vx vy).run P w = .ok v w∧RdD ok w v d:=by
 obtain ⟨cx,rfl,h'⟩:=pK h
 obtain ⟨cy,rfl,h''⟩:=pK h'
 obtain ⟨h1,h4⟩:=aF h''
 obtain ⟨h2,h5⟩:=aF h4
 obtain ⟨h3,h⟩:=aF h5
 obtain ⟨hg,hs⟩:=hT.keys (t:=t) (by intro e;rw [e] at hk;cases hk) (by intro e;rw [e] at h1;cases h1)
 have hag:lT P t=true:=by
  obtain ⟨d,i,hf⟩:=hT.facts (t:=t) (by intro e;rw [e] at hk;cases hk)
  have hd:=hf.k
  unfold lT
  rw [hf.und]
  cases d<;>first | rfl | (rw [hd] at hk;simp [kOf,TK.isAgg] at hk)
 have main:∀ (ok:Nat→Prop) (w:World) (vx vy:Value),RdD ok w vx (.agg cx)→RdD ok w vy (.agg cy)→(Op.equal t vx vy).run P w = .ok (aW cx cy) w∧(∀ op,(eqGuard op t ox oy vx vy).run P w = .ok () w)∧(∃ xs,vx = .agg xs)∧∃ ys,vy = .agg ys:=by
  intro ok w vx vy hx hy
  have:=(zh 9994 6 t _ hs ok w vx vy _ _ hx hy (by simp [Shape,hag,D.one]) (by simp [Shape,hag,D.one]) h2 h3).1
  cases hx;cases hy
  refine ⟨this,fun op=>?_,⟨_,rfl⟩,⟨_,rfl⟩⟩
  cases op<;>simp [eqGuard,hg]
 cases op<;>simp only [UC] at h<;>try exact h.elim
 ·refine ⟨_,h,fun ok w vx vy hx hy=>?_⟩
  obtain ⟨e1,e2,⟨xs,rfl⟩,⟨ys,rfl⟩⟩:=main ok w vx vy hx hy
  exact ⟨.bool (aW cx cy),by simp [e2,binOp,e1],.bool _⟩
 ·refine ⟨_,h,fun ok w vx vy hx hy=>?_⟩
  obtain ⟨e1,e2,⟨xs,rfl⟩,⟨ys,rfl⟩⟩:=main ok w vx vy hx hy
  exact ⟨.bool (!aW cx cy),by simp [e2,binOp,e1],.bool _⟩
def ZR (op:BinOp) (te:TE) (vals:List V) (K:KK):Prop:=
 match vals with
 | [.d x,.d y]=>match te.k.isAgg with
   | true=>KF op te.ks x y fun d=>K (.d d) [] [] []
   | false=>abb op te.k x y fun d=>K (.d d) [] [] []
 | [.ptr _ _,.d y]=>match te.k,y with
   | .ptr,.dN=>rG op false fun d=>K (.d d) [] [] []
   | _,_=>False
 | _=>False
theorem NC (hT:TOK P T) {o:Oper} {op:BinOp} {t ty:Nat} {x y:Operand} (ho:o.op = .binOp op t x y ty) {vals:List V} {h:Key→Option Res} {K:KK} (hK:ZR op (T t) vals K) :
  ∃ x δ rd nw,K x δ rd nw∧aP P o vals h x δ rd nw:=by
 unfold ZR at hK
 split at hK
 ·rename_i dx dy
  have key:∃ d,K (.d d) [] [] []∧∀ (ok:Nat→Prop) (w:World) (vx vy:Value),RdD ok w vx dx→RdD ok w vy dy→∃ v,(do eqGuard op t x y vx vy;binOp op t vx vy).run P w = .ok v w∧RdD ok w v d:=by
   split at hK
   ·rename_i hag
    exact uX hT hag hK x y
   have:∃ d,K (.d d) [] [] []∧abb op (T t).k dx dy fun d'=>d'=d:=by
    unfold abb at hK ⊢
    split at hK
    ·obtain ⟨k,a,rfl,h2⟩:=fF hK
     obtain ⟨k',b,rfl,h3⟩:=fF h2
     cases op<;>simp only [P7] at h3
     case shl=>exact ⟨_,h3.2,h3.1,rfl⟩
     case shr=>exact ⟨_,h3.2,h3.1,rfl⟩
     all_goals obtain ⟨hk,h4⟩:=bM h3;subst hk
     case add=>cases k<;>first | exact ⟨_,h4.2,h4.1,rfl⟩ | exact ⟨_,h4,rfl⟩
     case sub=>cases k<;>first | exact ⟨_,h4.2,h4.1,rfl⟩ | exact ⟨_,h4,rfl⟩
     case mul=>cases k<;>first | exact ⟨_,h4.2,h4.1,rfl⟩ | exact ⟨_,h4,rfl⟩
     case quo=>cases k<;>first | exact ⟨_,h4.2.2,h4.1,h4.2.1,rfl⟩ | exact ⟨_,h4.2,h4.1,rfl⟩
     case rem=>cases k<;>exact ⟨_,h4.2,h4.1,rfl⟩
     all_goals cases k<;>exact ⟨_,h4,rfl⟩
    ·obtain ⟨a,rfl,h2⟩:=gJ hK
     obtain ⟨b,rfl,h3⟩:=gJ h2
     cases op<;>simp only [P6] at h3<;>first | exact ⟨_,h3.2,h3.1,rfl⟩ | exact ⟨_,h3,rfl⟩ | exact h3.elim
    ·obtain ⟨a,rfl,h2⟩:=gQ hK
     obtain ⟨b,rfl,h3⟩:=gQ h2
     cases op<;>simp only [KD] at h3<;>first | exact ⟨_,h3,rfl⟩ | exact h3.elim
    ·split at hK<;>first | (cases op<;>simp only [rG] at hK<;>first | exact ⟨_,hK,rfl⟩ | exact hK.elim) | exact hK.elim
    ·exact hK.elim
   obtain ⟨d,h1,h2⟩:=this
   refine ⟨d,h1,fun ok w vx vy hx hy=>?_⟩
   obtain ⟨d',v,g1,g2,rfl⟩:=WI (w:=w) hT op t hx hy h2 x y
   exact ⟨v,g1,g2⟩
  obtain ⟨d,h1,h2⟩:=key
  refine ⟨_,_,_,_,h1,aP.dD fun β u ok w ρ e g1 g2 g3=>?_⟩
  simp only [ho,Op.operands,List.map_cons,List.map_nil,List.cons.injEq,and_true] at g1 g2
  have hx:=g1 x (by simp)
  have hy:=g1 y (by simp)
  rw [g2.1] at hx
  rw [g2.2] at hy
  obtain ⟨v,f1,f2⟩:=h2 ok w _ _ hx.fB hy.fB
  refine ⟨v,?_,.d _ _ f2⟩
  simp only [execOp,ho]
  rw [Sem.run_bind,f1];rfl
 ·rename_i id off dy
  split at hK
  ·rename_i hk
   have key:∃ b,K (.d (.bool b)) [] [] []∧((op = .eql∧b=false)∨(op = .neq∧b=true)):=by
    cases op<;>simp only [rG] at hK<;>first | exact ⟨_,hK,.inl ⟨rfl,rfl⟩⟩ | exact ⟨_,hK,.inr ⟨rfl,rfl⟩⟩ | exact hK.elim
   obtain ⟨b,h1,h2⟩:=key
   refine ⟨_,_,_,_,h1,aP.dD fun β u ok w ρ e g1 g2 g3=>?_⟩
   simp only [ho,Op.operands,List.map_cons,List.map_nil,List.cons.injEq,and_true] at g1 g2
   have hx:=g1 x (by simp)
   have hy:=g1 y (by simp)
   rw [g2.1] at hx
   rw [g2.2] at hy
   have hy':=hy.fB
   generalize hvx:ρ x=vx at hx
   generalize hvy:ρ y=vy at hy'
   cases hx with
   | ptr id off b' q1 q2=>
     cases hy'
     have he:=iE (P:=P) (w:=w) hT hk (some ⟨b',off,none⟩) none (.inr rfl)
     refine ⟨.bool b,?_,.d _ _ (.bool b)⟩
     rcases h2 with ⟨rfl,rfl⟩ | ⟨rfl,rfl⟩<;>simp [execOp,ho,hvx,hvy,dS,binOp,he]
  ·exact hK.elim
 ·exact hK.elim
end
def TE.known (e:TE):Bool:=match e.k with | .none=>false | _=>true
def TE.one (e:TE):Bool:=match e.k with | .none=>false | .agg _=>false | .arr _ _=>false | _=>true
theorem TE.qL {e:TE} (h:e.one=true):e.k ≠ .none∧e.k.isAgg=false:=by
 unfold TE.one at h
 cases hk:e.k<;>simp [hk,TK.isAgg] at h ⊢
def MQ (r:List D) (K:D→Prop):Prop:=match r with | [c]=>K c | _=>False
theorem vM {r:List D} {K:D→Prop} (h:MQ r K):∃ c,r=[c]∧K c:=by
 unfold MQ at h;split at h
 ·exact ⟨_,rfl,h⟩
 ·exact h.elim
def xE (r:Option Res) (K:V→Prop):Prop:=match r with | some (.cell v)=>K v | _=>False
theorem pq {r:Option Res} {K:V→Prop} (h:xE r K):∃ v,r=some (.cell v)∧K v:=by
 unfold xE at h;split at h
 ·exact ⟨_,rfl,h⟩
 ·exact h.elim
def jU (r:Option Res) (K:Nat→List D→Prop):Prop:=match r with | some (.arr sz xs)=>K sz xs | _=>False
theorem dM {r:Option Res} {K:Nat→List D→Prop} (h:jU r K):∃ sz xs,r=some (.arr sz xs)∧K sz xs:=by
 unfold jU at h;split at h
 ·exact ⟨_,_,rfl,h⟩
 ·exact h.elim
def getCells (h:Key→Option Res) (id:Nat):(off n:Nat)→(List V→Prop)→Prop
 | _,0,K=>K []
 | off,n+1,K=>xE (h (id,off)) fun v=>getCells h id (off+1) n fun vs=>K (v::vs)
theorem nU (h:Key→Option Res) (id:Nat):∀ (n off:Nat) (K:List V→Prop),getCells h id off n K→∃ vs,vs.length=n∧(∀ j,j<n→∃ v,vs[j]?=some v∧h (id,off+j)=some (.cell v))∧K vs
 | 0,off,K,hK=>⟨[],rfl,fun j hj=>by omega,hK⟩
 | n+1,off,K,hK=>by
   unfold getCells at hK
   obtain ⟨v,h1,hK⟩:=pq hK
   obtain ⟨vs,h2,h3,hK⟩:=nU h id n (off+1) _ hK
   refine ⟨v::vs,by simp [h2],fun j hj=>?_,hK⟩
   cases j with
   | zero=>exact ⟨v,rfl,h1⟩
   | succ j=>
     obtain ⟨v',g1,g2⟩:=h3 j (by omega)
     exact ⟨v',by simpa using g1,by rw [show off+(j+1)=off+1+j by omega];exact g2⟩
def oK (id:Nat):(off n:Nat)→List Key
 | _,0=>[]
 | off,n+1=>(id,off)::oK id (off+1) n
theorem o8 (id:Nat):∀ (n off j:Nat),j<n→(id,off+j)∈oK id off n
 | n+1,off,0,_=>by simp [oK]
 | n+1,off,j+1,hj=>by
   have:=o8 id n (off+1) j (by omega)
   rw [show off+1+j=off+(j+1) by omega] at this
   simp [oK,this]
def D8 (te:TE) (vals:List V) (h:Key→Option Res) (K:KK):Prop:=
 match vals with
 | [.d x]=>UF x fun cs off=>
   uT te.k.isAgg (cut cs off te.size fun r=>K (.d (.agg r)) [] [] []) (bD te.one (cut cs off 1 fun r=>MQ r fun c=>K (.d c) [] [] []))
 | [.ptr id off]=>
   uT te.k.isAgg (getCells h id off te.size fun vs=>K (CY vs) [] (oK id off te.size) []) (bD te.one (xE (h (id,off)) fun v=>K v [] [(id,off)] []))
 | [.ael id sz i off]=>jU (h (id,0)) fun sz' xs=>bD (Nat.beq sz sz') (∃ x,xs[i]?=some x ∧
   uT te.k.isAgg (cut x.cells off te.size fun r=>K (.d (.agg r)) [] [(id,0)] []) (bD te.one (cut x.cells off 1 fun r=>MQ r fun c=>K (.d c) [] [(id,0)] [])))
 | _=>False
section
variable {P:Program} {T:Nat→TE}
theorem D7 (hT:TOK P T) {t:Nat} {vals:List V} {h:Key→Option Res} {K:KK} (hK:D8 (T t) vals h K) :
  ∃ v0 x rd,vals=[v0]∧K x [] rd []∧∀ (β:Nat→Value) (u ok:Nat→Prop) (w:World) (vx:Value),RdV β u ok w vx v0→(∀ k∈rd,∀ r,h k=some r→Own β u ok w k r) →
    ∃ v,(Instr.loadAt t vx).run P w = .ok v w∧RdV β u ok w v x:=by
 unfold D8 at hK
 split at hK
 ·obtain ⟨cs,off,rfl,hK⟩:=pJ hK
  unfold uT at hK
  split at hK
  ·rename_i hag
   obtain ⟨r,h1,h2,hK⟩:=lQ _ _ _ _ hK
   refine ⟨_,_,_,rfl,hK,fun β u ok w vx hx g3=>?_⟩
   obtain ⟨v',f1,f2⟩:=yE hT hag hx.fB h1 h2
   exact ⟨v',f1,.d _ _ f2⟩
  ·obtain ⟨ho1,hK⟩:=aF hK
   obtain ⟨hk1,hk2⟩:=TE.qL ho1
   obtain ⟨r,h1,h2,hK⟩:=lQ _ _ _ _ hK
   obtain ⟨c,rfl,hK⟩:=vM hK
   refine ⟨_,_,_,rfl,hK,fun β u ok w vx hx g3=>?_⟩
   obtain ⟨v',f1,f2,_⟩:=yD hT hk1 hk2 hx.fB (by have:=h2 0 (by omega);simpa using this)
   exact ⟨v',f1,.d _ _ f2⟩
 ·rename_i id off
  unfold uT at hK
  split at hK
  ·rename_i hag
   obtain ⟨vs,h1,h2,hK⟩:=nU _ _ _ _ _ hK
   refine ⟨_,_,_,rfl,hK,fun β u ok w vx hx g3=>?_⟩
   cases hx with
   | ptr _ _ b q1 q2=>
     obtain ⟨d,i,hf⟩:=hT.facts (t:=t) (by intro e0;rw [e0] at hag;cases hag)
     have hown:∀ j,j<(T t).size→∃ v u0,vs[j]?=some v∧w.cell? ⟨b,off+j,none⟩=some u0∧u0.oneCell'=true∧RdV β u ok w u0 v:=fun j hj=>by
      obtain ⟨v,p1,p2⟩:=h2 j hj
      obtain ⟨b',c,T',v',f1,f2,f3,f4,f5⟩:=g3 _ (o8 id _ off j hj) _ p2
      simp only at f1 f3
      rw [q2] at f1
      simp at f1
      subst f1
      exact ⟨v,v',p1,by rw [cell_of_row w b _ c T' (0,0) f2];exact f3,f4,f5⟩
     have hl:=hf.mP hag w b off (fun j=>(w.cell? ⟨b,off+j,none⟩).getD undef) (fun j hj=>by
      obtain ⟨v,u0,_,p2,_⟩:=hown j hj;rw [p2];rfl)
     refine ⟨.agg ((List.range (T t).size).map fun j=>(w.cell? ⟨b,off+j,none⟩).getD undef).toArray,(by simp [Instr.loadAt,Instr.sureAddr,hl]),qG (by simp [h1]) (fun j v c hv hc=>?_) (fun j v hv=>?_)⟩
     ·have hj:j<(T t).size:=by rw [← h1];exact (List.getElem?_eq_some_iff.1 hc).1
      obtain ⟨v0,u0,p1,p2,p3,p4⟩:=hown j hj
      simp [hj,p2] at hv
      rw [p1] at hc
      cases hc
      rw [← hv];exact p4
     ·have hj:j<(T t).size:=by have:=(Array.getElem?_eq_some_iff.1 hv).1;simpa using this
      obtain ⟨v0,u0,p1,p2,p3,p4⟩:=hown j hj
      simp [hj,p2] at hv
      rw [← hv];exact p3
  ·obtain ⟨ho1,hK⟩:=aF hK
   obtain ⟨hk1,hk2⟩:=TE.qL ho1
   obtain ⟨v,h1,hK⟩:=pq hK
   refine ⟨_,_,_,rfl,hK,fun β u ok w vx hx g3=>?_⟩
   cases hx with
   | ptr _ _ b q1 q2=>
     obtain ⟨d,i,hf⟩:=hT.facts (t:=t) hk1
     obtain ⟨b',c,T',v',f1,f2,f3,f4,f5⟩:=g3 _ (by simp) _ h1
     simp only at f1 f3
     rw [q2] at f1
     simp at f1
     subst f1
     exact ⟨v',(by simp [Instr.loadAt,Instr.sureAddr,hf.iV hk1 hk2 w b off v' (by rw [cell_of_row w b _ c T' (0,0) f2];exact f3)]),f5⟩
 ·rename_i id sz i off
  obtain ⟨sz',xs,hh,hK⟩:=dM hK
  obtain ⟨hs,y,hy,hK9⟩:=aF hK
  have hs':sz=sz':=Nat.eq_of_beq_eq_true hs
  subst hs'
  have base:∀ (β:Nat→Value) (u ok:Nat→Prop) (w:World) (v:Value),RdV β u ok w v (.ael id sz i off)→Own β u ok w (id,0) (.arr sz xs) →
    ∃ b o,v = .pointer (some ⟨b,o+off,none⟩)∧∀ j c,y.cells[j]?=some c→∃ u0,w.cell? ⟨b,o+j,none⟩=some u0∧RdD ok w u0 c∧u0.oneCell'=true∧c.one=true:=fun β u ok w v hv ho=>by
   cases hv with
   | ael _ _ _ _ b o n cap q1 q2=>
     obtain ⟨_,a0,cap',f1,f2,f3,f4,f5,f6⟩:=ho
     simp only at f1
     rw [q2] at f1
     simp at f1
     obtain ⟨rfl,rfl,rfl⟩:=f1
     have hi:i<xs.length:=(List.getElem?_eq_some_iff.1 hy).1
     obtain ⟨b',o',cur,T',e1,e2,e3,e4⟩:=f6 (by omega)
     simp at e1
     obtain ⟨rfl,rfl⟩:=e1
     refine ⟨b,o+i*sz,by rw [Nat.add_assoc],fun j c hc=>?_⟩
     obtain ⟨u0,p1,p2⟩:=e4 i y j c hy hc
     exact ⟨u0,by rw [cell_of_row w b _ cur T' (0,0) e2,← p1,Nat.add_assoc],p2⟩
  unfold uT at hK9
  split at hK9
  ·rename_i hag
   obtain ⟨r,h1,h2,hK8⟩:=lQ _ _ _ _ hK9
   refine ⟨_,_,_,rfl,hK8,fun β u ok w vx hx g3=>?_⟩
   obtain ⟨b,o,hv,hc⟩:=base β u ok w _ hx (g3 _ (by simp) _ hh)
   obtain ⟨d,inf,hf⟩:=hT.facts (t:=t) (by intro e0;rw [e0] at hag;cases hag)
   have hcell:∀ j,j<(T t).size→∃ c u0,r[j]?=some c∧w.cell? ⟨b,o+off+j,none⟩=some u0∧RdD ok w u0 c∧u0.oneCell'=true∧c.one=true:=fun j hj=>by
    have hr:r[j]?=some r[j]:=by simp
    have:=h2 j hj
    rw [hr] at this
    obtain ⟨u0,p1,p2⟩:=hc _ _ this
    exact ⟨r[j],u0,hr,by rw [Nat.add_assoc];exact p1,p2⟩
   have hl:=hf.mP hag w b (o+off) (fun j=>(w.cell? ⟨b,o+off+j,none⟩).getD undef) (fun j hj=>by
    obtain ⟨c,u0,_,p2,_⟩:=hcell j hj;rw [p2];rfl)
   refine ⟨_,(by rw [hv];simp only [Instr.loadAt,Instr.sureAddr,Sem.run_bind,Sem.run_pure,Result.andThen_ok];exact hl),.d _ _ (.agg _ _ (by simp [h1]) (fun j v c hv hc=>?_) (fun j v c hv hc=>?_))⟩
   all_goals
    have hj:j<(T t).size:=by rw [← h1];exact (List.getElem?_eq_some_iff.1 hc).1
    obtain ⟨c0,u0,p1,p2,p3,p4⟩:=hcell j hj
    simp [hj,p2] at hv
    rw [p1] at hc
    cases hc
    rw [← hv]
   ·exact p3
   ·exact p4
  ·obtain ⟨ho1,hK8⟩:=aF hK9
   obtain ⟨hk1,hk2⟩:=TE.qL ho1
   obtain ⟨r,h1,h2,hK7⟩:=lQ _ _ _ _ hK8
   obtain ⟨c,rfl,hK6⟩:=vM hK7
   refine ⟨_,_,_,rfl,hK6,fun β u ok w vx hx g3=>?_⟩
   obtain ⟨b,o,hv,hc⟩:=base β u ok w _ hx (g3 _ (by simp) _ hh)
   obtain ⟨d,inf,hf⟩:=hT.facts (t:=t) hk1
   obtain ⟨u0,p1,p2,_⟩:=hc off c (by have:=h2 0 (by omega);simpa using this)
   exact ⟨u0,(by rw [hv];simp only [Instr.loadAt,Instr.sureAddr,Sem.run_bind,Sem.run_pure,Result.andThen_ok];exact hf.iV hk1 hk2 w b (o+off) u0 p1),.d _ _ p2⟩
 ·exact hK.elim
theorem JB (hT:TOK P T) {o:Oper} {t:Nat} {x:Operand} (ho:o.op = .load t x) {vals:List V} {h:Key→Option Res} {K:KK} (hK:D8 (T t) vals h K) :
  ∃ x δ rd nw,K x δ rd nw∧aP P o vals h x δ rd nw:=by
 obtain ⟨v0,y,rd,rfl,hK,hrun⟩:=D7 hT hK
 refine ⟨_,_,_,_,hK,aP.dD fun β u ok w ρ e g1 g2 g3=>?_⟩
 simp only [ho,Op.operands,List.map_cons,List.map_nil,List.cons.injEq,and_true] at g1 g2
 have hx:=g1 x (by simp)
 rw [g2] at hx
 obtain ⟨v,f1,f2⟩:=hrun β u ok w _ hx g3
 exact ⟨v,by simp [execOp,ho,f1],f2⟩
def TE.fields (e:TE):List (Nat×Nat×Bool):=match e.k with | .agg fs=>fs | _=>[]
def oN (fs:List (Nat×Nat×Bool)) (f:Nat) (K:Nat→Prop):Prop:=
 match fs,f with
 | (fo,fsz,_)::_,0=>bD (Nat.blt 0 fsz) (K fo)
 | _::fs,f+1=>oN fs f K
 | [],_=>False
theorem uw:∀ (fs:List (Nat×Nat×Bool)) (f:Nat) (K:Nat→Prop),oN fs f K→∃ fo fsz fb,fs[f]?=some (fo,fsz,fb)∧fsz≠0∧K fo
 | (fo,fsz,fb)::fs,0,K,h=>by
   unfold oN at h
   obtain ⟨h1,h2⟩:=aF h
   exact ⟨fo,fsz,fb,rfl,by have:=Nat.le_of_ble_eq_true h1;omega,h2⟩
 | _::fs,f+1,K,h=>by
   unfold oN at h
   obtain ⟨fo,fsz,fb,h1,h2⟩:=uw fs f K h
   exact ⟨fo,fsz,fb,by simpa using h1,h2⟩
 | [],_,K,h=>by unfold oN at h;exact h.elim
def zX (te:TE) (f:Nat) (vals:List V) (K:KK):Prop:=
 oN te.fields f fun fo=>
  match vals with
  | [.d x]=>UF x fun cs off=>K (.d (.ref cs (off+fo))) [] [] []
  | [.ptr id off]=>K (.ptr id (off+fo)) [] [] []
  | [.ael id sz i off]=>K (.ael id sz i (off+fo)) [] [] []
  | _=>False
theorem xO (hT:TOK P T) {o:Oper} {t f:Nat} {x:Operand} (ho:o.op = .fieldAddr t x f) {vals:List V} {h:Key→Option Res} {K:KK} (hK:zX (T t) f vals K) :
  ∃ x δ rd nw,K x δ rd nw∧aP P o vals h x δ rd nw:=by
 obtain ⟨fo,fsz,fb,h1,h2,hK⟩:=uw _ _ _ hK
 obtain ⟨fs,hk⟩:∃ fs,(T t).k = .agg fs∧(T t).fields=fs:=by
  unfold TE.fields at h1 ⊢
  split at h1
  ·rename_i fs hk;exact ⟨fs,hk,rfl⟩
  ·simp at h1
 obtain ⟨hk,hfs⟩:=hk
 rw [hfs] at h1
 have hrun:∀ (ρ:Operand→Value) (w:World) b o',ρ x = .pointer (some ⟨b,o',none⟩)→(execOp ρ o).run P w = .ok (.value (.pointer (some ⟨b,o'+fo,none⟩))) w:=fun ρ w b o' hx=>by
  have:=zG (w:=w) hT hk h1 h2 b o'
  simp [execOp,ho,hx,this]
 split at hK
 ·obtain ⟨cs,off,rfl,hK⟩:=pJ hK
  refine ⟨_,_,_,_,hK,aP.dD fun β u ok w ρ e g1 g2 g3=>?_⟩
  simp only [ho,Op.operands,List.map_cons,List.map_nil,List.cons.injEq,and_true] at g1 g2
  have hx:=g1 x (by simp)
  rw [g2] at hx
  have hx':=hx.fB
  generalize hvx:ρ x=vx at hx'
  cases hx' with
  | ref b o' _ _ us q1 q2 q3=>exact ⟨_,hrun ρ w _ _ hvx,.d _ _ (by rw [Nat.add_assoc];exact .ref b o' _ _ us q1 q2 q3)⟩
 ·refine ⟨_,_,_,_,hK,aP.dD fun β u ok w ρ e g1 g2 g3=>?_⟩
  simp only [ho,Op.operands,List.map_cons,List.map_nil,List.cons.injEq,and_true] at g1 g2
  have hx:=g1 x (by simp)
  rw [g2] at hx
  generalize hvx:ρ x=vx at hx
  cases hx with
  | ptr _ off b q1 q2=>exact ⟨_,hrun ρ w _ _ hvx,.ptr _ _ b q1 q2⟩
 ·rename_i id sz i off _
  refine ⟨_,_,_,_,hK,aP.dD fun β u ok w ρ e g1 g2 g3=>?_⟩
  simp only [ho,Op.operands,List.map_cons,List.map_nil,List.cons.injEq,and_true] at g1 g2
  have hx:=g1 x (by simp)
  rw [g2] at hx
  generalize hvx:ρ x=vx at hx
  cases hx with
  | ael _ _ _ _ b o' n cap q1 q2=>exact ⟨_,hrun ρ w _ _ hvx,by rw [show o'+(i*sz+off)+fo=o'+(i*sz+(off+fo)) by omega];exact .ael _ sz i _ b o' n cap q1 q2⟩
 ·exact hK.elim
def jY (te:TE) (K:Nat→Prop):Prop:=match te.k with | .slc e=>K e | _=>False
theorem fE {te:TE} {K:Nat→Prop} (h:jY te K):∃ e,te.k = .slc e∧K e:=by
 unfold jY at h
 split at h
 ·exact ⟨_,by assumption,h⟩
 ·exact h.elim
def zW (T:Nat→TE) (t:Nat) (vals:List V) (K:KK):Prop:=
 jY (T t) fun e=>bD (T e).known <|
  match vals with
  | [.d x,i]=>zl x fun xs=>EW i fun _ n=>0≤n∧∃ y,xs[n.toNat]?=some y∧y.cells.length=(T e).size∧K (.d (.ref y.cells 0)) [] [] []
  | [.sl id sz off len,i]=>EW i fun _ n=>(0≤n∧n<len)∧bD (Nat.beq sz (T e).size) (K (.ael id sz (off+n.toNat) 0) [] [] [])
  | _=>False
theorem TE.aK {e:TE} (h:e.known=true):e.k ≠ .none:=by
 intro e0;unfold TE.known at h;rw [e0] at h;cases h
theorem xK (hT:TOK P T) {o:Oper} {t:Nat} {x ix:Operand} (ho:o.op = .indexAddr t x ix) {vals:List V} {h:Key→Option Res} {K:KK} (hK:zW T t vals K) :
  ∃ x δ rd nw,K x δ rd nw∧aP P o vals h x δ rd nw:=by
 obtain ⟨e,hk,hK⟩:=fE hK
 obtain ⟨hkn,hK⟩:=aF hK
 have hke:=TE.aK hkn
 split at hK
 ·obtain ⟨xs,rfl,hK⟩:=gK hK
  obtain ⟨k,n,rfl,h0,y,hy,hsz,hK⟩:=fP hK
  refine ⟨_,_,_,_,hK,aP.dD fun β u ok w ρ e' g1 g2 g3=>?_⟩
  simp only [ho,Op.operands,List.map_cons,List.map_nil,List.cons.injEq,and_true] at g1 g2
  have hx:=g1 x (by simp)
  have hi:=g1 ix (by simp)
  rw [g2.1] at hx
  rw [g2.2] at hi
  have hi':=hi.fB
  generalize hvi:ρ ix=vi at hi'
  cases hi'
  obtain ⟨v',f1,f2⟩:=yF (k:=k) hT hk hke hx.fB h0 hy hsz
  exact ⟨v',by simp [execOp,ho,hvi,f1],.d _ _ f2⟩
 ·rename_i id sz off len i _ _
  obtain ⟨k,n,rfl,⟨h0,hlt⟩,hK⟩:=fP hK
  obtain ⟨hs,hK⟩:=aF hK
  have hs':sz=(T e).size:=Nat.eq_of_beq_eq_true hs
  refine ⟨_,_,_,_,hK,aP.dD fun β u ok w ρ e' g1 g2 g3=>?_⟩
  simp only [ho,Op.operands,List.map_cons,List.map_nil,List.cons.injEq,and_true] at g1 g2
  have hx:=g1 x (by simp)
  have hi:=g1 ix (by simp)
  rw [g2.1] at hx
  rw [g2.2] at hi
  have hi':=hi.fB
  generalize hvi:ρ ix=vi at hi'
  generalize hvx:ρ x=vx at hx
  cases hi'
  cases hx with
  | sl _ _ _ _ n0 cap a0 a q1 q2 q3 q4 q5=>
    obtain ⟨b,o',e1,e2⟩:=q5 (by omega)
    obtain ⟨de,ie,hfe⟩:=hT.facts hke
    have hu:=hT.slc hk
    refine ⟨.pointer (some ⟨b,o'+((off+n.toNat)*sz+0),none⟩),?_,.ael id sz (off+n.toNat) 0 b o' n0 cap q1 (by rw [q2,e1])⟩
    have:o'+off*sz+n.toNat*(T e).size=o'+(off+n.toNat)*sz:=by rw [← hs',Nat.add_mul];omega
    simp [execOp,ho,hvi,hvx,e2,Instr.indexAt,run_underlying hu,asIntOf,hfe.sizeOf,h0,hlt,Addr.add_lit,this]
 ·exact hK.elim
def isStr (tk:TK) (p:Prop):Prop:=match tk with | .str=>p | _=>False
theorem Pg {tk:TK} {p:Prop} (h:isStr tk p):tk = .str∧p:=by
 unfold isStr at h;split at h
 ·exact ⟨rfl,h⟩
 ·exact h.elim
def S9 (te:TE) (vals:List V) (K:KK):Prop:=
 isStr te.k <|
  match vals with
  | [.d x,i]=>gq x fun s=>EW i fun _ n=>0≤n∧∃ c,s[n.toNat]?=some c∧K (.d (.int .u8 c.toNat)) [] [] []
  | _=>False
theorem Fv (hT:TOK P T) {o:Oper} {t:Nat} {x ix:Operand} (ho:o.op = .index t x ix) {vals:List V} {h:Key→Option Res} {K:KK} (hK:S9 (T t) vals K) :
  ∃ x δ rd nw,K x δ rd nw∧aP P o vals h x δ rd nw:=by
 obtain ⟨hk,hK⟩:=Pg hK
 split at hK
 ·obtain ⟨xs,rfl,hK⟩:=gJ hK
  obtain ⟨k,n,rfl,h0,c,hc,hK⟩:=fP hK
  refine ⟨_,_,_,_,hK,aP.dD fun β u ok w ρ e' g1 g2 g3=>?_⟩
  simp only [ho,Op.operands,List.map_cons,List.map_nil,List.cons.injEq,and_true] at g1 g2
  have hx:=g1 x (by simp)
  have hi:=g1 ix (by simp)
  rw [g2.1] at hx
  rw [g2.2] at hi
  have hi':=hi.fB
  generalize hvi:ρ ix=vi at hi'
  cases hi'
  have:=E8 (k:=k) hT hk hx.fB h0 hc
  exact ⟨_,by simp [execOp,ho,hvi,this],.d _ _ (.int _ _)⟩
 ·exact hK.elim
end
section
variable {P:Program} {T:Nat→TE}
theorem KZ {v:V} {K:D→Prop} (h:vD1 v K):∃ x,K x∧∀ (β:Nat→Value) (u ok:Nat→Prop) (w:World) val,RdV β u ok w val v→RdD ok w val x:=by
 cases v<;>simp only [vD1] at h
 case d x=>exact ⟨x,h,fun β u ok w val hv=>hv.fB⟩
 case aj=>exact ⟨_,h,fun β u ok w val hv=>by cases hv;exact .lF _⟩
 case emp=>exact ⟨_,h,fun β u ok w val hv=>by cases hv;exact .lF _⟩
theorem KY:∀ {vs:List V} {K:List D→Prop},vDs vs K→∃ ds,K ds∧ds.length=vs.length ∧
  ∀ (β:Nat→Value) (u ok:Nat→Prop) (w:World) (j:Nat) val v d,vs[j]?=some v→ds[j]?=some d→RdV β u ok w val v→RdD ok w val d
 | [],K,h=>⟨[],h,rfl,fun β u ok w j val v d hv=>by simp at hv⟩
 | v::vs,K,h=>by
   unfold vDs at h
   obtain ⟨x,h1,h2⟩:=KZ h
   obtain ⟨ds,h3,h4,h5⟩:=KY h1
   refine ⟨x::ds,h3,by simp [h4],fun β u ok w j val v' d hv hd hr=>?_⟩
   cases j with
   | zero=>simp at hv hd;subst hv;subst hd;exact h2 β u ok w val hr
   | succ j=>exact h5 β u ok w j val v' d (by simpa using hv) (by simpa using hd) hr
theorem l9 {v:V} {K:D→Prop} (h:vD v K):∃ x,K x∧∀ (β:Nat→Value) (u ok:Nat→Prop) (w:World) val,RdV β u ok w val v→RdD ok w val x:=by
 unfold vD at h
 split at h
 ·rename_i cs
  obtain ⟨ds,h1,h2,h3⟩:=KY h
  refine ⟨_,h1,fun β u ok w val hv=>?_⟩
  cases hv with
  | agg vs _ q1 q2 q3=>
    have key:∀ (i:Nat) v c,vs[i]?=some v→ds[i]?=some c→RdD ok w v c:=fun i v c hv hc=>by
     have hi:i<cs.length:=by rw [← h2];exact (List.getElem?_eq_some_iff.1 hc).1
     have hcs:cs[i]?=some cs[i]:=by simp
     exact h3 β u ok w i v _ c hcs hc (q2 i v _ hv hcs)
    exact .agg _ _ (by rw [q1,h2]) key (fun i v c hv hc=>⟨q3 i v hv,by rw [← (key i v c hv hc).oneCell];exact q3 i v hv⟩)
 ·exact KZ h
def mapD:List D→(List V→Prop)→Prop
 | [],K=>K []
 | d::ds,K=>mapD ds fun vs=>K (.d d::vs)
theorem sD:∀ {ds:List D} {K:List V→Prop},mapD ds K→K (ds.map .d)
 | [],_,h=>h
 | d::ds,K,h=>by unfold mapD at h;exact sD (K:=fun vs=>K (.d d::vs)) h
def qx (agg:Bool) (v:V) (K:List V→Prop):Prop:=
 match agg with
 | true=>match v with
   | .agg cs=>K cs
   | .d x=>asAgg x fun ds=>mapD ds K
   | _=>False
 | false=>match v with
   | .d x=>x.one=true∧K [.d x]
   | .aj=>K [.aj]
   | .emp=>K [.emp]
   | .ptr id off=>K [.ptr id off]
   | .sl id sz off len=>K [.sl id sz off len]
   | .ael id sz i off=>K [.ael id sz i off]
   | .map id=>K [.map id]
   | .func fn f c=>K [.func fn f c]
   | _=>False
theorem qw {agg:Bool} {v:V} {K:List V→Prop} (h:qx agg v K):∃ cs,K cs∧∀ (β:Nat→Value) (u ok:Nat→Prop) (w:World) val,RdV β u ok w val v →
  val.cells.size=cs.length∧∀ (j:Nat) u0 c,val.cells[j]?=some u0→cs[j]?=some c→RdV β u ok w u0 c∧u0.oneCell'=true:=by
 have one:∀ (v:V) (val:Value),(∀ cs,val ≠ .agg cs)→val.oneCell'=true→∀ (β:Nat→Value) (u ok:Nat→Prop) (w:World),RdV β u ok w val v→val.cells.size=[v].length∧∀ (j:Nat) u0 c,val.cells[j]?=some u0→[v][j]?=some c→RdV β u ok w u0 c∧u0.oneCell'=true:=by
  intro v val hna h1 β u ok w hr
  have hc:val.cells=#[val]:=by cases val<;>first | rfl | exact absurd rfl (hna _)
  rw [hc]
  refine ⟨rfl,fun j u0 c hu hc=>?_⟩
  cases j<;>simp at hu hc
  subst hu;subst hc
  exact ⟨hr,h1⟩
 unfold qx at h
 split at h
 ·split at h
  ·rename_i cs
   refine ⟨cs,h,fun β u ok w val hv=>?_⟩
   cases hv with
   | agg vs _ q1 q2 q3=>exact ⟨q1,fun j u0 c hu hc=>⟨q2 j u0 c hu hc,q3 j u0 hu⟩⟩
  ·obtain ⟨ds,rfl,h⟩:=pK h
   refine ⟨_,sD h,fun β u ok w val hv=>?_⟩
   obtain ⟨q1,q2⟩:=hv.fB.cellsOf
   refine ⟨by simpa [D.cells] using q1,fun j u0 c hu hc=>?_⟩
   simp only [List.getElem?_map,Option.map_eq_some_iff] at hc
   obtain ⟨d,hd,rfl⟩:=hc
   obtain ⟨f1,f2,_⟩:=q2 j u0 d hu hd
   exact ⟨.d _ _ f1,f2⟩
  ·exact h.elim
 ·split at h
  ·obtain ⟨h1,h2⟩:=h
   refine ⟨_,h2,fun β u ok w val hv=>one _ val (fun cs e=>?_) (by rw [hv.fB.oneCell];exact h1) β u ok w hv⟩
   have:=hv.fB.oneCell
   rw [h1,e] at this
   cases this
  all_goals first
   | exact h.elim
   | (refine ⟨_,h,fun β u ok w val hv=>?_⟩
      cases hv<;>exact one _ _ (fun cs e=>by cases e) rfl β u ok w (by constructor<;>assumption))
def ZQ (mu:Bool) (te:TE) (vals:List V) (n:Nat) (K:KK):Prop:=
 match vals with
 | [v]=>uT mu (qx te.k.isAgg v fun cs=>K (.ptr n 0) (lS n 0 cs) [] [n]) (vD v fun x=>K (.d (.ref x.cells 0)) [] [] [])
 | _=>False
theorem Nz {o:Oper} {t:Nat} {x:Operand} (ho:o.op = .box t x) {mu:Bool} {vals:List V} {h:Key→Option Res} {n:Nat} {K:KK} (hK:ZQ mu (T t) vals n K) :
  ∃ x δ rd nw,K x δ rd nw∧aP P o vals h x δ rd nw:=by
 unfold ZQ at hK
 split at hK
 ·rename_i v
  unfold uT at hK
  split at hK
  ·obtain ⟨cs,hK,h1⟩:=qw hK
   refine ⟨_,_,_,_,hK,aP.of_run fun C β ok s a w hr g1 g2 g3 g4 g5=>?_⟩
   simp only [ho,Op.operands,List.map_cons,List.map_nil,List.cons.injEq,and_true] at g1 g5
   have hx:=hr.eval x (g5 x (by simp))
   rw [g1] at hx
   obtain ⟨q1,q2⟩:=h1 β s.used ok w _ hx
   obtain ⟨β',hrel⟩:=hr.L6 (dst:=o.dst) g4 (g3 n (by simp)) (cells:=(a.eval x).cells) t (xs:=cs) q1 (fun j v x hv hx=>q2 j v x hv hx)
   exact ⟨_,_,.inl (by simp [execOp,ho,Instr.box,newVar,newRow]),β',ok,hrel⟩
  ·obtain ⟨d,hK,h1⟩:=l9 hK
   refine ⟨_,_,_,_,hK,aP.of_run fun C β ok s a w hr g1 g2 g3 g4 g5=>?_⟩
   simp only [ho,Op.operands,List.map_cons,List.map_nil,List.cons.injEq,and_true] at g1 g5
   have hx:=hr.eval x (g5 x (by simp))
   rw [g1] at hx
   obtain ⟨v',o',f1,f2⟩:=BP (P:=P) hr.okb (h1 β s.used ok w _ hx) t
   exact ⟨v',_,.inl (by simp [execOp,ho,f1]),β,_,hr.box g4 (.d _ _ f2)⟩
 ·exact hK.elim
def Tf (te:TE) (n:Nat) (K:KK):Prop:=
 bD te.known (bD (te.zero.cells.toList.all vH) (K (.ptr n 0) (lS n 0 (te.zero.cells.toList.map cellC)) [] [n]))
theorem FH (hT:TOK P T) {o:Oper} {t:Nat} (ho:o.op = .alloc t) {vals:List V} {h:Key→Option Res} {n:Nat} {K:KK} (hK:Tf (T t) n K) :
  ∃ x δ rd nw,K x δ rd nw∧aP P o vals h x δ rd nw:=by
 obtain ⟨hk,hK⟩:=aF hK
 obtain ⟨hz,hK⟩:=aF hK
 obtain ⟨d,i,hf⟩:=hT.facts (TE.aK hk)
 have hz':∀ v∈(T t).zero.cells.toList,vH v=true:=List.all_eq_true.1 hz
 refine ⟨_,_,_,_,hK,aP.of_run fun C β ok s a w hr g1 g2 g3 g4 g5=>?_⟩
 obtain ⟨β',hrel⟩:=hr.L6 (dst:=o.dst) g4 (g3 n (by simp)) (cells:=(T t).zero.cells) t (xs:=(T t).zero.cells.toList.map cellC) (by simp) (fun j v x hv hx=>by
  have hm:v∈(T t).zero.cells.toList:=by have:=Array.mem_of_getElem? hv;simpa using this
  simp [hv] at hx
  subst hx
  have:=hz' v hm
  exact ⟨wL _ _ _ _ _ this,by cases v<;>simp_all [vH,Value.oneCell']⟩)
 exact ⟨_,_,.inl (by simp [execOp,ho,Instr.alloc,zeroValue,typeInfo,hf.info,hf.zero,newVar,newRow]),β',ok,hrel⟩
def vw (cs:List D) (off:Nat) (r:List D):List D:=cs.take off++r++cs.drop (off+r.length)
def Jy (te:TE) (vals:List V) (h:Key→Option Res) (K:KK):Prop:=
 match vals with
 | [.ptr id off,v]=>qx te.k.isAgg v fun cs=>bD (Nat.beq cs.length te.size) (bD (Nat.blt 0 te.size) (getCells h id off te.size fun _=>K .any (lS id off cs) (oK id off te.size) []))
 | [.ael id sz i off,v]=>jU (h (id,0)) fun sz' xs=>bD (Nat.beq sz sz') (vD v fun d=>d.cells.length=te.size∧∃ x,xs[i]?=some x ∧
   ((off=0∧te.size=sz∧K .any [((id,0),some (.arr sz (xs.set i d)))] [(id,0)] []) ∨
    (∃ cs,x = .agg cs∧(cs.length=sz∧off+te.size≤sz)∧K .any [((id,0),some (.arr sz (xs.set i (.agg (vw cs off d.cells)))))] [(id,0)] [])))
 | _=>False
theorem kC (w:World) {t:Nat} {te:TE} {d:TypeDesc} {i:TypeInfo} (hf:TFacts P t te d i) (b off:Nat) (cur:Array Value) (Tb:TypeId) (hb:w.heap[b]?=some (.cells cur Tb (0,0))) (v:Value) (hs:v.cells.size=te.size)
  (hfit:off+v.cells.size≤cur.size) (h1:∀ u∈v.cells.toList,u.oneCell'=true):(Instr.storeAt t (.pointer (some ⟨b,off,none⟩)) v).run P w = .ok () (w.setRow b (patch cur off v.cells.toList)):=by
 have hst:=run_storeCells_at P b off Tb v.cells.toList 0 cur w hb (by simpa using hfit) h1
 simp only [Nat.add_zero] at hst
 simp only [Instr.storeAt,Instr.sureAddr,storeVar,Sem.run_bind,Sem.run_pure,Result.andThen_ok,hf.sizeOf,hs,ne_eq,not_true_eq_false,if_false]
 exact hst
theorem Fj (hT:TOK P T) {o:Oper} {t:Nat} {x y:Operand} (ho:o.op = .store t x y) (hkn:(T t).known=true) {vals:List V} {h:Key→Option Res} {K:KK} (hK:Jy (T t) vals h K) :
  ∃ x δ rd nw,K x δ rd nw∧aP P o vals h x δ rd nw:=by
 obtain ⟨dd,ii,hf⟩:=hT.facts (TE.aK hkn)
 unfold Jy at hK
 split at hK
 ·rename_i id off v
  obtain ⟨cs,hK,h1⟩:=qw hK
  obtain ⟨hlen,hK⟩:=aF hK
  obtain ⟨hpos,hK⟩:=aF hK
  have hlen':cs.length=(T t).size:=Nat.eq_of_beq_eq_true hlen
  have hpos':0<(T t).size:=Nat.le_of_ble_eq_true hpos
  obtain ⟨vs,h2,h3,hK⟩:=nU _ _ _ _ _ hK
  refine ⟨_,_,_,_,hK,aP.of_run fun C β ok s a w hr g1 g2 g3 g4 g5=>?_⟩
  simp only [ho,Op.operands,List.map_cons,List.map_nil,List.cons.injEq,and_true] at g1 g5
  have hx:=hr.eval x (g5 x (by simp))
  have hy:=hr.eval y (g5 y (by simp))
  rw [g1.1] at hx
  rw [g1.2] at hy
  obtain ⟨q1,q2⟩:=h1 β s.used ok w _ hy
  generalize hvx:a.eval x=vx at hx
  cases hx with
  | ptr _ _ b p1 p2=>
    have hne:cs≠[]:=by intro e;rw [e] at hlen';simp at hlen';omega
    obtain ⟨b',cur,Tb,e1,e2,e3,hrel⟩:=hr.storeCells (dst:=o.dst) g4 hne (fun j hj=>by
     obtain ⟨v',_,p⟩:=h3 j (by omega)
     exact ⟨v',by rw [g2 _ (o8 id _ off j (by omega))];exact p⟩) (vs:=(a.eval y).cells.toList) (by simpa using q1) (fun j v x hv hx=>q2 j v x (by simpa using hv) hx) undef
    rw [p2] at e1
    simp at e1
    subst e1
    have hst:=kC (P:=P) w hf b off cur Tb e2 (a.eval y) (by rw [q1,hlen']) (by simpa using e3) (fun u hu=>by
     obtain ⟨j,hj⟩:=List.getElem?_of_mem hu
     have hjl:j<cs.length:=by have:=(List.getElem?_eq_some_iff.1 hj).1;simp at this;omega
     exact (q2 j u cs[j] (by simpa using hj) (by simp)).2)
    exact ⟨undef,_,.inr ⟨by simp [execOp,ho,hvx,hst],rfl⟩,β,ok,hrel⟩
 ·rename_i id sz i off v
  obtain ⟨sz',xs,hh,hK⟩:=dM hK
  obtain ⟨hs,hK⟩:=aF hK
  have hs':sz=sz':=Nat.eq_of_beq_eq_true hs
  obtain ⟨d,⟨hw,x0,hx0,hK2⟩,h1⟩:=l9 hK
  have main:∀ (x':D),x'.cells.length=sz→off+d.cells.length≤sz→(∀ j,j<d.cells.length→x'.cells[off+j]?=d.cells[j]?)→(∀ j,j<sz→j<off∨off+d.cells.length≤j→x'.cells[j]?=x0.cells[j]?) →
    aP P o [.ael id sz i off,v] h .any [((id,0),some (.arr sz (xs.set i x')))] [(id,0)] []:=by
   intro x' hx' hfit hin hout
   refine aP.of_run fun C β ok s a w hr g1 g2 g3 g4 g5=>?_
   simp only [ho,Op.operands,List.map_cons,List.map_nil,List.cons.injEq,and_true] at g1 g5
   have hx:=hr.eval x (g5 x (by simp))
   have hy:=hr.eval y (g5 y (by simp))
   rw [g1.1] at hx
   rw [g1.2] at hy
   obtain ⟨q1,q2⟩:=(h1 β s.used ok w _ hy).cellsOf
   obtain ⟨b,o',cur,Tb,n,cap,e1,e2,e3,hrel⟩:=hr.Ws (dst:=o.dst) g4 (id:=id) (sz:=sz) (i:=i) (off:=off) (xs:=xs) (by rw [g2 _ (by simp),hh,hs']) hx0 (x':=x') (vs:=(a.eval y).cells.toList) (by simpa [q1] using hfit) hx'
    (fun j v' c hv hc=>by
     have hjl:j<d.cells.length:=by rw [← q1];have:=(List.getElem?_eq_some_iff.1 hv).1;simpa using this
     rw [hin j hjl] at hc
     exact q2 j v' c (by simpa using hv) hc) (fun j hjs hj=>hout j hjs (by simpa [q1] using hj)) undef
   generalize hvx:a.eval x=vx at hx
   cases hx with
   | ael _ _ _ _ b2 o2 n2 cap2 p1 p2=>
     rw [p2] at e1
     simp at e1
     obtain ⟨⟨rfl,rfl⟩,rfl,rfl⟩:=e1
     have hst:=kC (P:=P) w hf b2 (o2+(i*sz+off)) cur Tb e2 (a.eval y) (by rw [q1,hw]) (by simpa using e3) (fun u hu=>by
      obtain ⟨j,hj⟩:=List.getElem?_of_mem hu
      have hjl:j<d.cells.length:=by have:=(List.getElem?_eq_some_iff.1 hj).1;simp at this;omega
      exact (q2 j u d.cells[j] (by simpa using hj) (by simp)).2.1)
     exact ⟨undef,_,.inr ⟨by simp [execOp,ho,hvx,hst],rfl⟩,β,ok,hrel⟩
  rcases hK2 with ⟨rfl,hsz,hK3⟩ | ⟨cs,rfl,⟨hcs,hfit⟩,hK3⟩
  ·exact ⟨_,_,_,_,hK3,main d (by rw [hw,hsz]) (by omega) (fun j hj=>by rw [Nat.zero_add]) (fun j hjs hj=>by omega)⟩
  ·have hfit':off+d.cells.length≤cs.length:=by omega
   refine ⟨_,_,_,_,hK3,main _ ?_ (by omega) (fun j hj=>?_) (fun j hjs hj=>?_)⟩
   ·show (vw cs off d.cells).length=sz
    simp [vw];omega
   ·show (vw cs off d.cells)[off+j]?=d.cells[j]?
    unfold vw
    rw [List.append_assoc,List.getElem?_append_right (by simp;omega),List.getElem?_append_left (by simp;omega)]
    congr 1
    simp;omega
   ·show (vw cs off d.cells)[j]?=cs[j]?
    unfold vw
    rcases hj with hj | hj
    ·rw [List.append_assoc,List.getElem?_append_left (by simp;omega),List.getElem?_take_of_lt hj]
    ·rw [List.getElem?_append_right (by simp;omega),List.getElem?_drop]
     congr 1
     simp;omega
 ·exact hK.elim
end
theorem DL (off:Nat):∀ (l:List Value) (k:Nat) (cells:Array Value),off+k+l.length≤cells.size →
  (l.zipIdx k).foldl (fun cs (p:Value×Nat)=>cs.setIfInBounds (off+p.2) p.1) cells=patch cells (off+k) l
 | [],k,cells,h=>by simp [patch]
 | v::l,k,cells,h=>by
   simp only [List.length_cons] at h
   have ih:=DL off l (k+1) (cells.setIfInBounds (off+k) v) (by simp;omega)
   simp only [List.zipIdx_cons,List.foldl_cons]
   rw [ih]
   have e:=list_seg_step cells.toList (off+k) v l (by simp;omega)
   unfold patch
   congr 1
   simpa [Array.toList_setIfInBounds,Nat.add_assoc] using e
theorem yZ (place:Nat→Option (Nat×Nat)) (cells:Array Value) (i off size:Nat) (v:Value) (rest:List (Nat×Value)) (hp:place i=some (off,size)) (hs:v.cells.size=size) (hfit:off+size≤cells.size) :
  Instr.fill place cells ((i,v)::rest)=Instr.fill place (patch cells off v.cells.toList) rest:=by
 have hf:=DL off v.cells.toList 0 cells (by simpa [hs] using hfit)
 simp only [Nat.add_zero] at hf
 have hc:(v.cells.size≠size||decide (off+v.cells.size>cells.size))=false:=by simp [hs];omega
 rw [Instr.fill,hp]
 simp only [hc]
 rw [if_neg (by simp)]
 congr 1
 rw [← hf,← Array.foldl_toList,Array.toList_zipIdx]
section
variable {P:Program} {T:Nat→TE}
end
def jK (fs:List (Nat×Nat×Bool)) (f:Nat) (K:Nat→Nat→Bool→Prop):Prop:=
 match fs,f with
 | (fo,fsz,fb)::_,0=>K fo fsz fb
 | _::fs,f+1=>jK fs f K
 | [],_=>False
theorem uz:∀ {fs:List (Nat×Nat×Bool)} {f:Nat} {K:Nat→Nat→Bool→Prop},jK fs f K→∃ fo fsz fb,fs[f]?=some (fo,fsz,fb)∧K fo fsz fb
 | (fo,fsz,fb)::fs,0,K,h=>⟨fo,fsz,fb,rfl,h⟩
 | _::fs,f+1,K,h=>by
   unfold jK at h
   obtain ⟨fo,fsz,fb,h1,h2⟩:=uz h
   exact ⟨fo,fsz,fb,by simpa using h1,h2⟩
 | [],_,K,h=>by unfold jK at h;exact h.elim
def putAt:List V→Nat→List V→(List V→Prop)→Prop
 | cells,_,[],K=>K cells
 | _::cells,0,c::cs,K=>putAt cells 0 cs fun r=>K (c::r)
 | x::cells,off+1,cs,K=>putAt cells off cs fun r=>K (x::r)
 | [],_,_::_,_=>False
theorem vg:∀ (cells:List V) (off:Nat) (cs:List V) (K:List V→Prop),putAt cells off cs K→∃ r,K r∧r.length=cells.length∧(cs=[]∨off+cs.length≤cells.length) ∧
  (∀ j,j<cs.length→r[off+j]?=cs[j]?)∧∀ j,(j<off∨off+cs.length≤j)→r[j]?=cells[j]?
 | cells,off,[],K,h=>by
   have h':K cells:=by unfold putAt at h;exact h
   exact ⟨cells,h',rfl,.inl rfl,fun j hj=>by simp at hj,fun j _=>rfl⟩
 | x::cells,0,c::cs,K,h=>by
   unfold putAt at h
   obtain ⟨r,h1,h2,h3,h4,h5⟩:=vg cells 0 cs _ h
   refine ⟨c::r,h1,by simp [h2],.inr (by rcases h3 with rfl | h3<;>simp;simp at h3;omega),fun j hj=>?_,fun j hj=>?_⟩
   ·cases j with
    | zero=>rfl
    | succ j=>have:=h4 j (by simpa using hj);simpa using this
   ·cases j with
    | zero=>simp at hj
    | succ j=>have:=h5 j (by simp at hj ⊢;omega);simpa using this
 | x::cells,off+1,c::cs,K,h=>by
   unfold putAt at h
   obtain ⟨r,h1,h2,h3,h4,h5⟩:=vg cells off (c::cs) _ h
   refine ⟨x::r,h1,by simp [h2],.inr (by
    rcases h3 with h3 | h3
    ·cases h3
    ·simp at h3 ⊢;omega),fun j hj=>?_,fun j hj=>?_⟩
   ·rw [show off+1+j=(off+j)+1 by omega]
    have:=h4 j hj;simpa using this
   ·cases j with
    | zero=>rfl
    | succ j=>have:=h5 j (by simp at hj ⊢;omega);simpa using this
 | [],_,_::_,K,h=>by unfold putAt at h;exact h.elim
def pX (fs:List (Nat×Nat×Bool)):List V→List (Nat×Operand)→List V→(List V→Prop)→Prop
 | cells,(i,_)::ps,v::vs,K=>jK fs i fun fo fsz fb=>qx fb v fun cs=>bD (Nat.blt 0 fsz) (bD (Nat.beq cs.length fsz) (putAt cells fo cs fun r=>pX fs r ps vs K))
 | cells,[],[],K=>K cells
 | _,_,_,_=>False
theorem DT (fs:List (Nat×Nat×Bool)) (ρ:Operand→Value) (β:Nat→Value) (u ok:Nat→Prop) (w:World):∀ (ps:List (Nat×Operand)) (vs:List V) (cells:List V) (vcells:Array Value) (K:List V→Prop),
  pX fs cells ps vs K→vcells.size=cells.length→(∀ (j:Nat) u0 c,vcells[j]?=some u0→cells[j]?=some c→RdV β u ok w u0 c∧u0.oneCell'=true) →
  (∀ (i:Nat) p v,ps[i]?=some p→vs[i]?=some v→RdV β u ok w (ρ p.2) v) →
  ∃ r rv,K r∧Instr.fill (fun i=>(fs[i]?).map fun x=>(x.1,x.2.1)) vcells (ps.map fun p=>(p.1,ρ p.2))=some rv∧rv.size=r.length∧r.length=cells.length∧∀ (j:Nat) u0 c,rv[j]?=some u0→r[j]?=some c→RdV β u ok w u0 c∧u0.oneCell'=true
 | [],[],cells,vcells,K,h,hs,hc,_=>⟨cells,vcells,h,rfl,hs,rfl,hc⟩
 | (i,x)::ps,v::vs,cells,vcells,K,h,hs,hc,hv=>by
   unfold pX at h
   obtain ⟨fo,fsz,fb,h1,h⟩:=uz h
   obtain ⟨cs,h,h2⟩:=qw h
   obtain ⟨hpos,h⟩:=aF h
   have hpos':0<fsz:=Nat.le_of_ble_eq_true hpos
   obtain ⟨hl,h⟩:=aF h
   have hl':cs.length=fsz:=Nat.eq_of_beq_eq_true hl
   obtain ⟨r,h,g1,g2,g3,g4⟩:=vg _ _ _ _ h
   obtain ⟨q1,q2⟩:=h2 β u ok w (ρ x) (hv 0 (i,x) v rfl rfl)
   have hcs:(ρ x).cells.size=fsz:=by rw [q1,hl']
   rcases g2 with g2 | g2
   ·subst g2
    simp at hl'
    omega
   ·have hfit:fo+fsz≤vcells.size:=by rw [hs,← hl'];exact g2
    have hfit':fo+(ρ x).cells.toList.length≤vcells.size:=by simpa [hcs] using hfit
    obtain ⟨r',rv,p1,p2,p3,p4,p5⟩:=DT fs ρ β u ok w ps vs r (patch vcells fo (ρ x).cells.toList) K h (by rw [size_patch hfit',hs,g1]) (fun j u0 c hu hcc=>by
     by_cases hj:fo≤j∧j<fo+fsz
     ·have e1:=patch_in hfit' (i:=j-fo) (by simp [hcs];omega)
      rw [show fo+(j-fo)=j by omega] at e1
      rw [e1] at hu
      have e2:=g3 (j-fo) (by omega)
      rw [show fo+(j-fo)=j by omega] at e2
      rw [e2] at hcc
      exact q2 (j-fo) u0 c (by simpa using hu) hcc
     ·rw [patch_out hfit' (by simp [hcs];omega)] at hu
      rw [g4 j (by omega)] at hcc
      exact hc j u0 c hu hcc) (fun i p v hp hv'=>hv (i+1) p v (by simpa using hp) (by simpa using hv'))
    refine ⟨r',rv,p1,?_,p3,by rw [p4,g1],p5⟩
    rw [List.map_cons,yZ _ vcells i fo fsz (ρ x) _ (by simp [h1]) hcs hfit]
    exact p2
 | [],v::vs,cells,vcells,K,h,_,_,_=>by unfold pX at h;exact h.elim
 | p::ps,[],cells,vcells,K,h,_,_,_=>by unfold pX at h;exact h.elim
section
variable {P:Program} {T:Nat→TE}
theorem He {fs:List (Nat×Nat×Bool)} {z:Value} {parts:List (Nat×Operand)} {vals:List V} {K:List V→Prop} (hz':∀ v∈z.cells.toList,vH v=true) (hK:pX fs (z.cells.toList.map cellC) parts vals K) :
  ∃ r,K r∧∀ (ρ:Operand→Value) (β:Nat→Value) (u ok:Nat→Prop) (w:World),(∀ (i:Nat) p v,parts[i]?=some p→vals[i]?=some v→RdV β u ok w (ρ p.2) v) →
    ∃ rv,Instr.fill (fun i=>(fs[i]?).map fun x=>(x.1,x.2.1)) z.cells (parts.map fun p=>(p.1,ρ p.2))=some rv∧rv.size=r.length∧∀ (j:Nat) u0 c,rv[j]?=some u0→r[j]?=some c→RdV β u ok w u0 c∧u0.oneCell'=true:=by
 have shape:∀ (ps:List (Nat×Operand)) (vs cells:List V) (K:List V→Prop),pX fs cells ps vs K→∃ r,K r∧pX fs cells ps vs fun r'=>r'=r:=by
  intro ps
  induction ps with
  | nil=>
    intro vs cells K hK
    cases vs with
    | nil=>exact ⟨cells,hK,rfl⟩
    | cons v vs=>exact hK.elim
  | cons p ps ih=>
    intro vs cells K hK
    cases vs with
    | nil=>exact hK.elim
    | cons v vs=>
      obtain ⟨i,x⟩:=p
      have f3:∀ (fs:List (Nat×Nat×Bool)) (f:Nat) (K:Nat→Nat→Bool→Prop),jK fs f K→∃ a b c,K a b c∧∀ K':Nat→Nat→Bool→Prop,K' a b c→jK fs f K':=by
       intro fs
       induction fs with
       | nil=>intro f K hK;unfold jK at hK;exact hK.elim
       | cons y fs ihf=>
         intro f K hK
         obtain ⟨fo,fsz,fb⟩:=y
         cases f with
         | zero=>exact ⟨fo,fsz,fb,hK,fun K' h=>h⟩
         | succ f=>
           obtain ⟨a,b,c,h1,h2⟩:=ihf f K hK
           exact ⟨a,b,c,h1,fun K' h=>h2 K' h⟩
      have mD:∀ (ds:List D) (K:List V→Prop),mapD ds K→K (ds.map .d):=fun ds K h=>sD h
      have mD':∀ (ds:List D) (K:List V→Prop),K (ds.map .d)→mapD ds K:=by
       intro ds
       induction ds with
       | nil=>intro K h;exact h
       | cons d ds ihd=>intro K h;exact ihd _ h
      have vC:∀ (fb:Bool) (v:V) (K:List V→Prop),qx fb v K→∃ cs,K cs∧∀ K':List V→Prop,K' cs→qx fb v K':=by
       intro fb v K hK
       unfold qx at hK
       split at hK
       ·split at hK
        ·exact ⟨_,hK,fun K' h=>h⟩
        ·obtain ⟨ds,rfl,hK2⟩:=pK hK
         exact ⟨_,mD _ _ hK2,fun K' h=>mD' _ _ h⟩
        ·exact hK.elim
       ·split at hK
        ·exact ⟨_,hK.2,fun K' h=>⟨hK.1,h⟩⟩
        all_goals first | exact hK.elim | exact ⟨_,hK,fun K' h=>h⟩
      have pA:∀ (cells:List V) (off:Nat) (cs:List V) (K:List V→Prop),putAt cells off cs K→∃ r,K r∧∀ K':List V→Prop,K' r→putAt cells off cs K':=by
       intro cells
       induction cells with
       | nil=>
         intro off cs K hK
         cases cs with
         | nil=>unfold putAt at hK;exact ⟨_,hK,fun K' h=>by unfold putAt;exact h⟩
         | cons c cs=>unfold putAt at hK;exact hK.elim
       | cons y cells ihc=>
         intro off cs K hK
         cases cs with
         | nil=>unfold putAt at hK;exact ⟨_,hK,fun K' h=>by unfold putAt;exact h⟩
         | cons c cs=>
           cases off with
           | zero=>
             unfold putAt at hK
             obtain ⟨r,h1,h2⟩:=ihc 0 cs _ hK
             exact ⟨_,h1,fun K' h=>by unfold putAt;exact h2 _ h⟩
           | succ off=>
             unfold putAt at hK
             obtain ⟨r,h1,h2⟩:=ihc off (c::cs) _ hK
             exact ⟨_,h1,fun K' h=>by unfold putAt;exact h2 _ h⟩
      unfold pX at hK
      obtain ⟨a,b,c,h1,h1'⟩:=f3 _ _ _ hK
      obtain ⟨cs,h2,h2'⟩:=vC _ _ _ h1
      obtain ⟨hb1,h3⟩:=aF h2
      obtain ⟨hb2,h4⟩:=aF h3
      obtain ⟨r0,h5,h5'⟩:=pA _ _ _ _ h4
      obtain ⟨r,h6,h6'⟩:=ih vs r0 K h5
      refine ⟨r,h6,?_⟩
      unfold pX
      refine h1' _ (h2' _ ?_)
      rw [hb1,hb2]
      exact h5' _ h6'
 obtain ⟨r,h1,h2⟩:=shape _ _ _ _ hK
 refine ⟨r,h1,fun ρ β u ok w hv=>?_⟩
 obtain ⟨r',rv,p1,p2,p3,p4,p5⟩:=DT fs ρ β u ok w parts vals _ z.cells _ h2 (by simp) (fun j u0 c hu hc=>by
  have hm:u0∈z.cells.toList:=by have:=Array.mem_of_getElem? hu;simpa using this
  simp [hu] at hc
  subst hc
  have:=hz' u0 hm
  exact ⟨wL _ _ _ _ _ this,by cases u0<;>simp_all [vH,Value.oneCell']⟩) hv
 subst p1
 exact ⟨rv,p2,p3,p5⟩
def TE.isStr (e:TE):Bool:=match e.k with | .agg _=>true | _=>false
def Td (te:TE) (parts:List (Nat×Operand)) (vals:List V) (K:KK):Prop:=
 bD te.isStr <| bD (te.zero.cells.toList.all vH) <| pX te.fields (te.zero.cells.toList.map cellC) parts vals fun r=>K (CY r) [] [] []
theorem FD (hT:TOK P T) {o:Oper} {t:Nat} {parts:Array (Nat×Operand)} (ho:o.op = .build t parts) {vals:List V} {h:Key→Option Res} {K:KK} (hK:Td (T t) parts.toList vals K) :
  ∃ x δ rd nw,K x δ rd nw∧aP P o vals h x δ rd nw:=by
 obtain ⟨hag,hK⟩:=aF hK
 unfold TE.isStr at hag
 obtain ⟨hz,hK⟩:=aF hK
 have hz':∀ v∈(T t).zero.cells.toList,vH v=true:=List.all_eq_true.1 hz
 obtain ⟨d,inf,hf⟩:=hT.facts (t:=t) (by intro e0;rw [e0] at hag;cases hag)
 obtain ⟨fields,rfl,hfs,hall⟩:∃ fields,d = .struct fields∧(T t).fields=fields.toList.map (fun f=>(f.offset,P.cellsOf f.type,lT P f.type))∧∀ f∈fields.toList,(P.info? f.type).isSome=true:=by
  have hk:=hf.k
  cases d
  case struct fs=>
   simp only [kOf] at hk
   split at hk
   ·rename_i hall
    exact ⟨fs,rfl,by unfold TE.fields;rw [hk],fun f hf=>((Bool.and_eq_true _ _).mp (List.all_eq_true.1 hall f hf)).1⟩
   ·rw [hk] at hag;cases hag
  case array n e=>(simp only [kOf] at hk;split at hk<;>(rw [hk] at hag;cases hag))
  all_goals (simp [kOf] at hk;rw [hk] at hag;cases hag)
 have hplaces:∀ (fs:List Field),(∀ f∈fs,(P.info? f.type).isSome=true)→fs.mapM (fun f=>(P.info? f.type).map fun i=>(f.offset,i.size))=some (fs.map fun f=>(f.offset,P.cellsOf f.type)):=by
  intro fs
  induction fs with
  | nil=>intro _;rfl
  | cons f fs ih=>
    intro hs
    have h1:=hs f (by simp)
    obtain ⟨i,hi⟩:=Option.isSome_iff_exists.1 h1
    simp [List.mapM_cons,hi,ih (fun g hg=>hs g (by simp [hg])),Program.cellsOf]
 obtain ⟨r,h1,h2⟩:=He hz' hK
 refine ⟨_,_,_,_,h1,aP.dD fun β u ok w ρ e g1 g2 g3=>?_⟩
 simp only [ho,Op.operands] at g1 g2
 obtain ⟨rv,p1,p2,p3⟩:=h2 ρ β u ok w (fun i p v hp hv=>by
  have hv':v=e p.2:=by
   rw [← g2] at hv
   simp [hp] at hv
   exact hv.symm
  rw [hv']
  exact g1 p.2 (by simp;exact ⟨p.1,by have:=List.mem_of_getElem? hp;simpa using this⟩))
 have hb:P.built t (parts.map fun (p:Nat×Operand)=>(p.1,ρ p.2)).toList=some rv:=by
  unfold Program.built
  rw [hf.info,hf.und]
  simp only [hf.zero,hplaces _ hall]
  rw [Array.toList_map]
  rw [← p1]
  congr 1
  funext i
  simp [hfs]
  cases fields[i]?<;>rfl
 exact ⟨.agg rv,by simp [execOp,ho,run_build (P:=P) w t _ rv hb],qG p2 (fun j v c hv hc=>(p3 j v c hv hc).1) (fun j v hv=>by
  have hj:j<r.length:=by rw [← p2];exact (Array.getElem?_eq_some_iff.1 hv).1
  exact (p3 j v r[j] hv (by simp)).2)⟩
def Ie (sz:Nat) (agg:Bool):Nat→Nat→List (Nat×Nat×Bool)
 | _,0=>[]
 | off,n+1=>(off,sz,agg)::Ie sz agg (off+sz) n
theorem Ic {sz:Nat} {agg:Bool}:∀ {n off i:Nat} {x:Nat×Nat×Bool},(Ie sz agg off n)[i]?=some x→x=(off+i*sz,sz,agg)
 | 0,off,i,x,h=>by simp [Ie] at h
 | n+1,off,0,x,h=>by simp [Ie] at h;rw [← h];simp
 | n+1,off,i+1,x,h=>by
   have:=Ic (n:=n) (off:=off+sz) (i:=i) (by simpa [Ie] using h)
   rw [this,Nat.succ_mul]
   congr 1;omega
theorem G9 {p q:Nat→Option (Nat×Nat)} (hpq:∀ i x,p i=some x→q i=some x):∀ (l:List (Nat×Value)) (cells:Array Value) (r:Array Value),Instr.fill p cells l=some r→Instr.fill q cells l=some r
 | [],cells,r,h=>h
 | (i,v)::l,cells,r,h=>by
   unfold Instr.fill at h ⊢
   split at h
   ·cases h
   ·rename_i off size hp
    rw [hpq _ _ hp]
    simp only
    split at h
    ·cases h
    ·rename_i hc
     rw [if_neg hc]
     exact G9 hpq l _ r h
def Ny (T:Nat→TE) (t n e:Nat) (parts:List (Nat×Operand)) (vals:List V) (K:KK):Prop:=
 bD ((T e).known&&(T t).zero.cells.toList.all vH) <| pX (Ie (T e).size (T e).k.isAgg 0 n) ((T t).zero.cells.toList.map cellC) parts vals fun r=>K (CY r) [] [] []
theorem D9 (hT:TOK P T) {o:Oper} {t n e:Nat} {parts:Array (Nat×Operand)} (ho:o.op = .build t parts) (hk:(T t).k = .arr n e) {vals:List V} {h:Key→Option Res} {K:KK} (hK:Ny T t n e parts.toList vals K) :
  ∃ x δ rd nw,K x δ rd nw∧aP P o vals h x δ rd nw:=by
 obtain ⟨hb,hK⟩:=aF hK
 simp only [Bool.and_eq_true] at hb
 have hz':∀ v∈(T t).zero.cells.toList,vH v=true:=List.all_eq_true.1 hb.2
 obtain ⟨d,inf,hf⟩:=hT.facts (t:=t) (by rw [hk];intro e0;cases e0)
 obtain ⟨de,ie,hfe⟩:=hT.facts (TE.aK hb.1)
 have hd:d = .array n e:=by
  have hd:=hf.k
  rw [hk] at hd
  cases d
  case array n' e'=>
   simp only [kOf] at hd
   split at hd
   ·cases hd;rfl
   ·cases hd
  case struct fs=>(simp only [kOf] at hd;split at hd<;>cases hd)
  all_goals simp [kOf] at hd
 subst hd
 obtain ⟨r,h1,h2⟩:=He hz' hK
 refine ⟨_,_,_,_,h1,aP.dD fun β u ok w ρ e' g1 g2 g3=>?_⟩
 simp only [ho,Op.operands] at g1 g2
 obtain ⟨rv,p1,p2,p3⟩:=h2 ρ β u ok w (fun i p v hp hv=>by
  have hv':v=e' p.2:=by
   rw [← g2] at hv
   simp [hp] at hv
   exact hv.symm
  rw [hv']
  exact g1 p.2 (by simp;exact ⟨p.1,by have:=List.mem_of_getElem? hp;simpa using this⟩))
 have hb:P.built t (parts.map fun (p:Nat×Operand)=>(p.1,ρ p.2)).toList=some rv:=by
  unfold Program.built
  rw [hf.info,hf.und]
  simp only [hf.zero,hfe.info]
  rw [Array.toList_map]
  refine G9 (fun i x hx=>?_) _ _ _ p1
  simp only [Option.map_eq_some_iff] at hx
  obtain ⟨y,hy,rfl⟩:=hx
  rw [Ic hy,hfe.size]
  simp
 exact ⟨.agg rv,by simp [execOp,ho,run_build (P:=P) w t _ rv hb],qG p2 (fun j v c hv hc=>(p3 j v c hv hc).1) (fun j v hv=>by
  have hj:j<r.length:=by rw [← p2];exact (Array.getElem?_eq_some_iff.1 hv).1
  exact (p3 j v r[j] hv (by simp)).2)⟩
end
section
variable {P:Program} {T:Nat→TE}
def aiT (op:UnOp) (vals:List V) (K:KK):Prop:=
 match vals with
 | [.d x]=>unD op x fun d=>K (.d d) [] [] []
 | _=>False
theorem PS {o:Oper} {op:UnOp} {t:Nat} {x:Operand} (ho:o.op = .unOp op t x) {vals:List V} {h:Key→Option Res} {K:KK} (hK:aiT op vals K) :
  ∃ x δ rd nw,K x δ rd nw∧aP P o vals h x δ rd nw:=by
 unfold aiT at hK
 split at hK
 ·rename_i d0
  have key:∃ d,K (.d d) [] [] []∧unD op d0 fun d'=>d'=d:=by
   cases op<;>simp only [unD] at hK<;>try exact hK.elim
   ·obtain ⟨k,n,rfl,h2⟩:=fF hK
    cases k<;>first | exact ⟨_,h2.2,h2.1,rfl⟩ | exact ⟨_,h2,rfl⟩
   ·obtain ⟨b,rfl,h2⟩:=gQ hK
    exact ⟨_,h2,rfl⟩
  obtain ⟨d,h1,h2⟩:=key
  refine ⟨_,_,_,_,h1,aP.dD fun β u ok w ρ e g1 g2 g3=>?_⟩
  simp only [ho,Op.operands,List.map_cons,List.map_nil,List.cons.injEq,and_true] at g1 g2
  have hx:=g1 x (by simp)
  rw [g2] at hx
  obtain ⟨d',v',f1,f2,rfl⟩:=abR (P:=P) op hx.fB h2
  exact ⟨v',by simp [execOp,ho,f1],.d _ _ f2⟩
 ·exact hK.elim
def PW (src dst:TK) (vals:List V) (K:KK):Prop:=
 match vals with
 | [.d x]=>Hw src dst x fun d=>K (.d d) [] [] []
 | _=>False
theorem JC (hT:TOK P T) {o:Oper} {src dst:Nat} {x:Operand} (ho:o.op = .convert src dst x) {vals:List V} {h:Key→Option Res} {K:KK} (hK:PW (T src).k (T dst).k vals K) :
  ∃ x δ rd nw,K x δ rd nw∧aP P o vals h x δ rd nw:=by
 unfold PW at hK
 split at hK
 ·rename_i d0
  have key:∀ a b:TK,Hw a b d0 (fun d=>K (.d d) [] [] [])→∃ d,K (.d d) [] [] []∧Hw a b d0 fun d'=>d'=d:=by
   intro a b hK
   cases a<;>cases b<;>simp only [Hw] at hK ⊢<;>try exact hK.elim
   rename_i k1 k2
   obtain ⟨k',n,rfl,h2⟩:=fF hK
   cases k2<;>first | exact ⟨_,h2.2,h2.1,rfl⟩ | exact ⟨_,h2,rfl⟩
  obtain ⟨d,h1,h2⟩:=key _ _ hK
  refine ⟨_,_,_,_,h1,aP.dD fun β u ok w ρ e g1 g2 g3=>?_⟩
  simp only [ho,Op.operands,List.map_cons,List.map_nil,List.cons.injEq,and_true] at g1 g2
  have hx:=g1 x (by simp)
  rw [g2] at hx
  obtain ⟨d',v',f1,f2,rfl⟩:=U2 (P:=P) hT hx.fB h2
  exact ⟨v',by simp [execOp,ho,f1],.d _ _ f2⟩
 ·exact hK.elim
def ZP (te:TE) (vals:List V) (K:KK):Prop:=
 match te.k with
 | .slc _=>match vals with
   | [.d x]=>zl x fun xs=>K (.d (.int .i64 xs.length)) [] [] []
   | [.sl _ _ _ len]=>K (.d (.int .i64 len)) [] [] []
   | [.aj]=>K (.d (.int .i64 0)) [] [] []
   | [.emp]=>K (.d (.int .i64 0)) [] [] []
   | [.rsl _ len]=>K (.d (.int .i64 len)) [] [] []
   | _=>False
 | .str=>match vals with
   | [.d x]=>gq x fun s=>K (.d (.int .i64 s.length)) [] [] []
   | _=>False
 | _=>False
theorem Nw (hT:TOK P T) {o:Oper} {t:Nat} {x:Operand} (ho:o.op = .call { callee := .builtin .len,args:=#[x],argTypes:=#[t] }) {vals:List V} {h:Key→Option Res} {K:KK} (hK:ZP (T t) vals K) :
  ∃ x δ rd nw,K x δ rd nw∧aP P o vals h x δ rd nw:=by
 unfold ZP at hK
 have fin:∀ (vx:V) (n:Nat),vals=[vx]→(∀ β u ok w v,RdV β u ok w v vx→(Builtin.len_ #[t] o.type #[v]).run P w = .ok (.int .i64 n) w)→K (.d (.int .i64 n)) [] [] []→∃ x δ rd nw,K x δ rd nw∧aP P o vals h x δ rd nw:=by
  intro vx n hv hrun hK
  refine ⟨_,_,_,_,hK,aP.dD fun β u ok w ρ e g1 g2 g3=>?_⟩
  simp only [ho,Op.operands,Call.operands,hv] at g1 g2
  simp at g1 g2
  rw [g2] at g1
  have:=hrun β u ok w _ g1
  exact ⟨_,by simp [execOp,ho,resolve,invoke,builtin,this],.d _ _ (.int _ _)⟩
 split at hK
 ·rename_i e hk
  have hu:=hT.slc hk
  have hl:∀ (w:World) a n c,(Builtin.len_ #[t] o.type #[.slice a n c]).run P w = .ok (.int .i64 n) w:=fun w a n c=>by
   simp [Builtin.len_,run_underlying hu,goInt]
  split at hK
  ·obtain ⟨xs,rfl,hK2⟩:=gK hK
   refine fin _ _ rfl (fun β u ok w v hv=>?_) hK2
   have:=hv.fB
   cases this<;>exact hl _ _ _ _
  ·refine fin _ _ rfl (fun β u ok w v hv=>?_) hK
   cases hv;exact hl _ _ _ _
  ·refine fin _ 0 rfl (fun β u ok w v hv=>?_) hK
   cases hv;exact hl _ _ _ _
  ·refine fin _ 0 rfl (fun β u ok w v hv=>?_) hK
   cases hv;exact hl _ _ _ _
  ·refine fin _ _ rfl (fun β u ok w v hv=>?_) hK
   cases hv;exact hl _ _ _ _
  ·exact hK.elim
 ·rename_i hk
  split at hK
  ·obtain ⟨s,rfl,hK2⟩:=gJ hK
   obtain ⟨d,inf,hf⟩:=hT.facts (t:=t) (by rw [hk];intro e;cases e)
   have hd:=hf.k
   rw [hk] at hd
   rw [jB.2.1 hd.symm] at hf
   refine fin _ _ rfl (fun β u ok w v hv=>?_) hK2
   have:=hv.fB
   cases this
   have e:(⟨s.toArray⟩:ByteArray).size=s.length:=by simp [ByteArray.size]
   simp [Builtin.len_,run_underlying hf.und,goInt,e]
  ·exact hK.elim
 ·exact hK.elim
end
section
variable {P:Program} {T:Nat→TE}
def bnd (there:Bool) (vs:List V) (K:Option Int→List V→Prop):Prop:=
 match there with
 | true=>match vs with
   | v::vs=>EW v fun _ n=>K (some n) vs
   | []=>False
 | false=>K none vs
theorem EJ {x:Option Operand} {xs:List Operand} {e:Operand→V} {vs:List V} {K:Option Int→List V→Prop} (hv:(x.toList++xs).map e=vs) (h:bnd x.isSome vs K) :
  ∃ n,K n (xs.map e)∧∀ (β:Nat→Value) (u ok:Nat→Prop) (w:World) (ρ:Operand→Value),(∀ y∈x.toList,RdV β u ok w (ρ y) (e y))→∃ k,x.map ρ=n.map (Value.int k):=by
 subst hv
 cases x with
 | none=>exact ⟨none,h,fun β u ok w ρ _=>⟨.i64,rfl⟩⟩
 | some y=>
   simp only [bnd,Option.isSome_some,Option.toList_some,List.cons_append,List.nil_append,List.map_cons] at h
   obtain ⟨k,n,he,hK⟩:=fP h
   refine ⟨some n,hK,fun β u ok w ρ hr=>⟨k,?_⟩⟩
   have:=hr y (by simp)
   rw [he] at this
   have h2:=this.fB
   simp only [Option.map_some]
   generalize ρ y=v at h2
   cases h2;rfl
def agK (agg:Bool) (r:List D) (K:D→Prop):Prop:=match agg with | true=>K (.agg r) | false=>MQ r K
def Ez (agg:Bool) (cs:List D) (sz:Nat):Nat→Nat→(List D→Prop)→Prop
 | _,0,K=>K []
 | off,k+1,K=>cut cs off sz fun r=>agK agg r fun d=>Ez agg cs sz (off+sz) k fun ds=>K (d::ds)
def ones (cs:List D):Bool:=cs.all D.one
theorem rC {agg:Bool} {cs:List D} {sz:Nat} (h1:∀ c∈cs,D.one c=true):∀ {k off:Nat} {K:List D→Prop},Ez agg cs sz off k K →
  ∃ ds,K ds∧ds.length=k∧∀ (i:Nat) d,ds[i]?=some d→(D.cells d).length=sz∧∀ j,j<sz→cs[off+(i*sz+j)]?=(D.cells d)[j]?
 | 0,off,K,h=>⟨[],h,rfl,fun i d hd=>by simp at hd⟩
 | k+1,off,K,h=>by
   unfold Ez at h
   obtain ⟨r,hr,hc,h⟩:=lQ _ _ _ _ h
   have he:∃ d,(Ez agg cs sz (off+sz) k fun ds=>K (d::ds))∧D.cells d=r:=by
    unfold agK at h
    split at h
    ·exact ⟨_,h,rfl⟩
    ·obtain ⟨c,rfl,h⟩:=vM h
     refine ⟨c,h,?_⟩
     have h0:sz=1:=by simpa using hr.symm
     subst h0
     have:=hc 0 (by omega)
     have hm:=h1 c (List.mem_of_getElem? (by simpa using this))
     cases c<;>first | rfl | cases hm
   obtain ⟨d,h,hd⟩:=he
   obtain ⟨ds,hK,hl,hg⟩:=rC h1 h
   refine ⟨d::ds,hK,by simp [hl],fun i d' hi=>?_⟩
   cases i with
   | zero=>
     simp only [List.getElem?_cons_zero,Option.some.injEq] at hi
     subst hi
     rw [hd]
     exact ⟨hr,fun j hj=>by rw [Nat.zero_mul,Nat.zero_add];exact hc j hj⟩
   | succ i=>
     obtain ⟨g1,g2⟩:=hg i d' (by simpa using hi)
     exact ⟨g1,fun j hj=>by rw [← g2 j hj];congr 1;rw [Nat.succ_mul];omega⟩
def Ba (T:Nat→TE) (t:Nat) (lo hi mx:Bool) (vals:List V) (K:KK):Prop:=
 match vals with
 | x::vs=>bnd lo vs fun l vs1=>bnd hi vs1 fun h vs2=>bnd mx vs2 fun m _=>
   match (T t).k with
   | .str=>match x with
     | .d y=>gq y fun s=>m=none∧(0≤l.getD 0∧l.getD 0≤h.getD s.length∧h.getD s.length≤s.length)∧K (.d (.str ((s.take (h.getD s.length).toNat).drop (l.getD 0).toNat))) [] [] []
     | _=>False
   | .slc e=>bD (T e).known <|
     match m with
     | some m=>(m=0∧h=some 0∧l.getD 0=0)∧(match x with
       | .d y=>zl y fun _=>K .emp [] [] []
       | .sl _ _ _ _=>K .emp [] [] []
       | .aj=>K .emp [] [] []
       | .emp=>K .emp [] [] []
       | _=>False)
     | none=>match x with
       | .d y=>zl y fun xs=>(0≤l.getD 0∧l.getD 0≤h.getD xs.length∧h.getD xs.length≤xs.length)∧(∀ y∈xs,y.cells.length=(T e).size)∧K (.d (.list ((xs.take (h.getD xs.length).toNat).drop (l.getD 0).toNat))) [] [] []
       | .sl id sz off len=>bD (Nat.beq sz (T e).size) ((0≤l.getD 0∧l.getD 0≤h.getD len∧h.getD len≤len)∧K (.sl id sz (off+(l.getD 0).toNat) ((h.getD len).toNat-(l.getD 0).toNat)) [] [] [])
       | .emp=>(l.getD 0=0∧h.getD 0=0)∧K .emp [] [] []
       | .aj=>(l.getD 0=0∧h.getD 0=0)∧K .emp [] [] []
       | _=>False
   | .arr n e=>bD ((T e).known&&(Nat.blt 0 (T e).size&&Nat.ble n 1000000)) <| match x with
     | .d y=>UF y fun cs off=>(m=none∧0≤l.getD 0∧l.getD 0≤h.getD n∧h.getD n≤n)∧bD (ones cs) (Ez (T e).k.isAgg cs (T e).size (off+(l.getD 0).toNat*(T e).size) ((h.getD n).toNat-(l.getD 0).toNat) fun ds=>K (.d (.list ds)) [] [] [])
     | _=>False
   | _=>False
 | []=>False
theorem iD (hT:TOK P T) {t e:Nat} (hk:(T t).k = .slc e) (he:(T e).k ≠ .none) (w:World) (a:Option Addr) (len cap:Nat) (kl kh:IntKind) (l h:Option Int) (h0:0≤l.getD 0) (h1:l.getD 0≤h.getD len) (h2:h.getD len≤cap) :
  (Instr.sliceAt t (.slice a len cap) (l.map (.int kl)) (h.map (.int kh)) none).run P w =
   .ok (.slice (if cap=(l.getD 0).toNat then a else a.map (·.add ((l.getD 0).toNat*(T e).size))) ((h.getD len).toNat-(l.getD 0).toNat) (cap-(l.getD 0).toNat)) w:=by
 have hu:=hT.slc hk
 obtain ⟨de,ie,hfe⟩:=hT.facts he
 cases l with
 | none=>cases h with
   | none=>
     simp at h1 h2
     simp [Instr.sliceAt,Instr.slice,run_underlying hu,Instr.sliceBounds,hfe.sizeOf]
   | some h=>
     simp at h1 h2
     simp [Instr.sliceAt,Instr.slice,run_underlying hu,Instr.sliceBounds,Instr.sliceBound,asIntOf,hfe.sizeOf,h1,h2]
 | some l=>cases h with
   | none=>
     simp at h0 h1 h2
     simp [Instr.sliceAt,Instr.slice,run_underlying hu,Instr.sliceBounds,Instr.sliceBound,asIntOf,hfe.sizeOf,h0,h1]
   | some h=>
     simp at h0 h1 h2
     have h3:0≤h:=by omega
     have h4:l≤max h 0:=by omega
     simp [Instr.sliceAt,Instr.slice,run_underlying hu,Instr.sliceBounds,Instr.sliceBound,asIntOf,hfe.sizeOf,h0,h2,h3,h4]
theorem BK (hT:TOK P T) {t e:Nat} (hk:(T t).k = .slc e) (he:(T e).k ≠ .none) (w:World) (a:Option Addr) (len cap:Nat) (kl kh km:IntKind) (l:Option Int) (h0:l.getD 0=0) :
  (Instr.sliceAt t (.slice a len cap) (l.map (.int kl)) (some (.int kh 0)) (some (.int km 0))).run P w = .ok (.slice a 0 0) w:=by
 have hu:=hT.slc hk
 obtain ⟨de,ie,hfe⟩:=hT.facts he
 cases l with
 | none=>simp [Instr.sliceAt,Instr.slice,run_underlying hu,Instr.sliceBounds,Instr.sliceBound,asIntOf,hfe.sizeOf]
 | some l=>
   simp at h0
   subst h0
   simp [Instr.sliceAt,Instr.slice,run_underlying hu,Instr.sliceBounds,Instr.sliceBound,asIntOf,hfe.sizeOf]
theorem E5 (hT:TOK P T) {t n e:Nat} (hk:(T t).k = .arr n e) (he:(T e).k ≠ .none) (w:World) (a:Addr) (kl kh:IntKind) (l h:Option Int) (h0:0≤l.getD 0) (h1:l.getD 0≤h.getD n) (h2:h.getD n≤n) :
  (Instr.sliceAt t (.pointer (some a)) (l.map (.int kl)) (h.map (.int kh)) none).run P w =
   .ok (.slice (some (if n=(l.getD 0).toNat then a else a.add ((l.getD 0).toNat*(T e).size))) ((h.getD n).toNat-(l.getD 0).toNat) (n-(l.getD 0).toNat)) w:=by
 have hu:P.underlying t=some (.array n e):=by
  obtain ⟨d,i,hf⟩:=hT.facts (t:=t) (by rw [hk];intro e;cases e)
  have hd:=hf.k
  rw [hk] at hd
  cases d
  case array n' e'=>
   simp only [kOf] at hd
   split at hd
   ·cases hd;exact hf.und
   ·cases hd
  case struct fs=>(simp only [kOf] at hd;split at hd<;>cases hd)
  all_goals simp [kOf] at hd
 obtain ⟨de,ie,hfe⟩:=hT.facts he
 cases l with
 | none=>cases h with
   | none=>
     simp at h1 h2
     simp [Instr.sliceAt,run_underlying hu,Instr.sureAddr,Instr.sliceBounds,hfe.sizeOf]
   | some h=>
     simp at h1 h2
     simp [Instr.sliceAt,run_underlying hu,Instr.sureAddr,Instr.sliceBounds,Instr.sliceBound,asIntOf,hfe.sizeOf,h1,h2]
 | some l=>cases h with
   | none=>
     simp at h0 h1 h2
     simp [Instr.sliceAt,run_underlying hu,Instr.sureAddr,Instr.sliceBounds,Instr.sliceBound,asIntOf,hfe.sizeOf,h0,h1]
   | some h=>
     simp at h0 h1 h2
     have h3:0≤h:=by omega
     have h4:l≤max h 0:=by omega
     simp [Instr.sliceAt,run_underlying hu,Instr.sureAddr,Instr.sliceBounds,Instr.sliceBound,asIntOf,hfe.sizeOf,h0,h2,h3,h4]
theorem Fp (hT:TOK P T) {o:Oper} {t:Nat} {x:Operand} {lo hi mx:Option Operand} (ho:o.op = .slice t x lo hi mx) {vals:List V} {h:Key→Option Res} {K:KK}
  (hK:Ba T t lo.isSome hi.isSome mx.isSome vals K):∃ x δ rd nw,K x δ rd nw∧aP P o vals h x δ rd nw:=by
 by_cases hvals:∃ e:Operand→V,(x::(lo.toList++(hi.toList++mx.toList))).map e=vals
 case neg=>
  unfold Ba at hK
  have any:∀ (y:V) δ rd nw,aP P o vals h y δ rd nw:=fun y δ rd nw C s a w _ h1=>by
   exfalso
   refine hvals ⟨s.ev,?_⟩
   rw [← h1,ho]
   cases lo<;>cases hi<;>cases mx<;>simp [Op.operands]
  split at hK
  ·rename_i x0 vs
   have pick:∀ (b:Bool) (vs:List V) (K:Option Int→List V→Prop),bnd b vs K→∃ n vs',K n vs':=fun b vs K hb=>by
    unfold bnd at hb
    split at hb
    ·split at hb
     ·obtain ⟨k,n,_,hK⟩:=fP hb
      exact ⟨_,_,hK⟩
     ·exact hb.elim
    ·exact ⟨_,_,hb⟩
   obtain ⟨l,vs1,hK⟩:=pick _ _ _ hK
   obtain ⟨hh,vs2,hK⟩:=pick _ _ _ hK
   obtain ⟨m,vs3,hK⟩:=pick _ _ _ hK
   split at hK
   ·split at hK
    ·obtain ⟨s,rfl,_,_,hK2⟩:=gJ hK
     exact ⟨_,_,_,_,hK2,any _ _ _ _⟩
    ·exact hK.elim
   ·obtain ⟨_,hK⟩:=aF hK
    split at hK
    ·obtain ⟨_,hK⟩:=hK
     split at hK
     ·obtain ⟨s,rfl,hK2⟩:=gK hK
      exact ⟨_,_,_,_,hK2,any _ _ _ _⟩
     all_goals first | exact ⟨_,_,_,_,hK,any _ _ _ _⟩ | exact hK.elim
    ·split at hK
     ·obtain ⟨s,rfl,_,_,hK2⟩:=gK hK
      exact ⟨_,_,_,_,hK2,any _ _ _ _⟩
     ·obtain ⟨_,_,hK⟩:=aF hK
      exact ⟨_,_,_,_,hK,any _ _ _ _⟩
     ·exact ⟨_,_,_,_,hK.2,any _ _ _ _⟩
     ·exact ⟨_,_,_,_,hK.2,any _ _ _ _⟩
     ·exact hK.elim
   ·obtain ⟨_,hK⟩:=aF hK
    split at hK
    ·obtain ⟨cs,off,rfl,_,hK⟩:=pJ hK
     obtain ⟨h1,hK⟩:=aF hK
     obtain ⟨ds,hK,_⟩:=rC (List.all_eq_true.1 h1) hK
     exact ⟨_,_,_,_,hK,any _ _ _ _⟩
    ·exact hK.elim
   ·exact hK.elim
  ·exact hK.elim
 case pos=>
  obtain ⟨e0,rfl⟩:=hvals
  unfold Ba at hK
  simp only [List.map_cons] at hK
  obtain ⟨l,hK1,b1⟩:=EJ (e:=e0) (x:=lo) (xs:=hi.toList++mx.toList) rfl hK
  obtain ⟨hh,hK2,b2⟩:=EJ (e:=e0) (x:=hi) (xs:=mx.toList) rfl hK1
  obtain ⟨m,hK3,b3⟩:=EJ (e:=e0) (x:=mx) (xs:=[]) (by simp) hK2
  have fit:∀ (res:V) (rd:List Key),(∀ (β:Nat→Value) (u ok:Nat→Prop) (w:World) (vx:Value) (kl kh km:IntKind),RdV β u ok w vx (e0 x) →
    ∃ v,(Instr.sliceAt t vx (l.map (.int kl)) (hh.map (.int kh)) (m.map (.int km))).run P w = .ok v w∧RdV β u ok w v res)→aP P o ((x::(lo.toList++(hi.toList++mx.toList))).map e0) h res [] rd []:=fun res rd H=>
   aP.dD fun β u ok w ρ e g1 g2 g3=>by
    have hops:o.op.operands.toList=x::(lo.toList++(hi.toList++mx.toList)):=by
     rw [ho];cases lo<;>cases hi<;>cases mx<;>simp [Op.operands]
    rw [hops] at g1 g2
    have ee:∀ y∈x::(lo.toList++(hi.toList++mx.toList)),e y=e0 y:=fun y hy=>List.map_inj_left.1 g2 y hy
    have g1':∀ y∈x::(lo.toList++(hi.toList++mx.toList)),RdV β u ok w (ρ y) (e0 y):=fun y hy=>by rw [← ee y hy];exact g1 y hy
    obtain ⟨kl,c1⟩:=b1 β u ok w ρ (fun y hy=>g1' y (by simp [hy]))
    obtain ⟨kh,c2⟩:=b2 β u ok w ρ (fun y hy=>g1' y (by simp [hy]))
    obtain ⟨km,c3⟩:=b3 β u ok w ρ (fun y hy=>g1' y (by simp [hy]))
    obtain ⟨v,r1,r2⟩:=H β u ok w (ρ x) kl kh km (g1' x (by simp))
    exact ⟨v,by simp only [execOp,ho,c1,c2,c3];rw [Sem.run_bind,r1];rfl,r2⟩
  generalize hx0:e0 x=x0 at hK3 fit
  split at hK3
  ·rename_i hk
   split at hK3
   ·obtain ⟨s,rfl,rfl,⟨d1,d2,d3⟩,hK4⟩:=gJ hK3
    refine ⟨_,_,_,_,hK4,fit _ _ fun β u ok w vx kl kh km hv=>?_⟩
    obtain ⟨v',r1,r2⟩:=EZ (w:=w) (kl:=kl) (kh:=kh) (lo:=l) (hi:=hh) hT hk hv.fB (fun l' e=>by subst e;simpa using d1) (fun h' e=>by subst e;simpa using d3) d2
    exact ⟨v',r1,.d _ _ r2⟩
   ·exact hK3.elim
  ·rename_i e hk
   obtain ⟨hkn,hK3⟩:=aF hK3
   have hke:=TE.aK hkn
   split at hK3
   ·rename_i m0
    obtain ⟨⟨rfl,rfl,d0⟩,hK3⟩:=hK3
    have zero:∀ (vx:Value),(∃ a n c,vx = .slice a n c)→∀ (β:Nat→Value) (u ok:Nat→Prop) (w:World) (kl kh km:IntKind),∃ v,(Instr.sliceAt t vx (l.map (.int kl)) ((some (0:Int)).map (.int kh)) ((some (0:Int)).map (.int km))).run P w = .ok v w∧RdV β u ok w v .emp:=
     fun vx ⟨a,n,c,e'⟩ β u ok w kl kh km=>by
      subst e'
      exact ⟨_,BK hT hk hke w a n c kl kh km l d0,.emp _⟩
    split at hK3
    ·obtain ⟨s,rfl,hK4⟩:=gK hK3
     exact ⟨_,_,_,_,hK4,fit _ _ fun β u ok w vx kl kh km hv=>zero vx (by cases hv.fB<;>exact ⟨_,_,_,rfl⟩) β u ok w kl kh km⟩
    ·exact ⟨_,_,_,_,hK3,fit _ _ fun β u ok w vx kl kh km hv=>zero vx (by cases hv;exact ⟨_,_,_,rfl⟩) β u ok w kl kh km⟩
    ·exact ⟨_,_,_,_,hK3,fit _ _ fun β u ok w vx kl kh km hv=>zero vx (by cases hv;exact ⟨_,_,_,rfl⟩) β u ok w kl kh km⟩
    ·exact ⟨_,_,_,_,hK3,fit _ _ fun β u ok w vx kl kh km hv=>zero vx (by cases hv;exact ⟨_,_,_,rfl⟩) β u ok w kl kh km⟩
    ·exact hK3.elim
   ·split at hK3
    ·obtain ⟨xs,rfl,⟨d1,d2,d3⟩,dw,hK4⟩:=gK hK3
     refine ⟨_,_,_,_,hK4,fit _ _ fun β u ok w vx kl kh km hv=>?_⟩
     have hv':=hv.fB
     have lenle:∀ n:Nat,hh.getD n≤n→0≤l.getD 0→l.getD 0≤hh.getD n→((xs.take (hh.getD n).toNat).drop (l.getD 0).toNat).length=min (hh.getD n).toNat xs.length-(l.getD 0).toNat:=fun n _ _ _=>by simp
     cases hv' with
     | lF a=>
       refine ⟨_,iD hT hk hke w a 0 0 kl kh l hh d1 d2 (by simpa using d3),.d _ _ ?_⟩
       simp at d2 d3 ⊢
       have e1:(l.getD 0).toNat=0:=by omega
       have e2:(hh.getD 0).toNat=0:=by omega
       rw [e1,e2]
       exact .lF _
     | lst a cap sz _ us q1 q2 q3 q4 q5 q6 q7 q8=>
       refine ⟨_,iD hT hk hke w (some a) xs.length cap kl kh l hh d1 d2 (by omega),.d _ _ ?_⟩
       have qa:∀ n,ok (a.add n).block∧(a.add n).spot=none:=fun n=>by
        unfold Addr.add
        split
        ·exact ⟨q1,q2⟩
        ·exact ⟨q1,rfl⟩
       have hlen:=lenle xs.length d3 d1 d2
       have hl2:((xs.take (hh.getD xs.length).toNat).drop (l.getD 0).toNat).length=(hh.getD ↑xs.length).toNat-(l.getD 0).toNat:=by rw [hlen];congr 1;omega
       rw [← hl2]
       have hget:∀ (i:Nat) y,((xs.take (hh.getD xs.length).toNat).drop (l.getD 0).toNat)[i]?=some y→xs[(l.getD 0).toNat+i]?=some y:=fun i y hy=>by
        rw [List.getElem?_drop,List.getElem?_take] at hy
        split at hy
        ·exact hy
        ·cases hy
       by_cases hz:((xs.take (hh.getD xs.length).toNat).drop (l.getD 0).toNat)=[]
       ·rw [hz]
        have:=RdD.lst (ok:=ok) (w:=w) (if cap=(l.getD 0).toNat then a else a.add ((l.getD 0).toNat*(T e).size)) (cap-(l.getD 0).toNat) 1 [] (fun _ _=>undef) (by split<;>first | exact q1 | exact (qa _).1) (by split<;>first | exact q2 | exact (qa _).2) (by simp) (by omega) (by omega) (by simp) (by simp) (by simp)
        split
        ·rename_i hc;rw [if_pos hc] at this;exact this
        ·rename_i hc;rw [if_neg hc] at this;exact this
       ·obtain ⟨y,hy⟩:=List.exists_mem_of_ne_nil _ hz
        obtain ⟨i,hi⟩:=List.getElem?_of_mem hy
        have hxi:=hget i y hi
        have hszE:sz=(T e).size:=by rw [← q6 _ _ hxi];exact dw y (List.mem_of_getElem? hxi)
        have hlt:(l.getD 0).toNat<cap:=by have:=(List.getElem?_eq_some_iff.1 hxi).1;omega
        rw [if_neg (by omega)]
        obtain ⟨b,o',sp⟩:=a
        simp only at q2
        subst q2
        simp only [Option.map_some,Addr.add_lit]
        refine .lst ⟨b,o'+(l.getD 0).toNat*(T e).size,none⟩ _ sz _ (fun i j=>us ((l.getD 0).toNat+i) j) q1 rfl (by rw [hl2];omega) (by omega) q5 (fun i y hy=>q6 _ _ (hget i y hy)) (fun i y j c hy hc=>?_) (fun i y j c hy hc=>q8 _ _ j c (hget i y hy) hc)
        have:=q7 _ _ j c (hget i y hy) hc
        rw [← hszE]
        simp only at this ⊢
        rwa [show o'+(l.getD 0).toNat*sz+(i*sz+j)=o'+(((l.getD 0).toNat+i)*sz+j) by rw [Nat.add_mul];omega]
    ·rename_i id sz off len _
     obtain ⟨hs,⟨d1,d2,d3⟩,hK4⟩:=aF hK3
     have hs':sz=(T e).size:=Nat.eq_of_beq_eq_true hs
     refine ⟨_,_,_,_,hK4,fit _ _ fun β u ok w vx kl kh km hv=>?_⟩
     cases hv with
     | sl _ _ _ _ n cap a0 a q1 q2 q3 q4 q5=>
       refine ⟨_,iD hT hk hke w a len (cap-off) kl kh l hh d1 d2 (by omega),?_⟩
       rw [show cap-off-(l.getD 0).toNat=cap-(off+(l.getD 0).toNat) by omega]
       refine .sl id sz _ _ n cap a0 _ q1 q2 (by omega) q4 (fun hc=>?_)
       obtain ⟨b,o',f1,f2⟩:=q5 (by omega)
       refine ⟨b,o',f1,?_⟩
       rw [if_neg (by omega),f2]
       simp only [Option.map_some,Addr.add_lit,← hs',Nat.add_mul,Nat.add_assoc]
    ·obtain ⟨⟨d1,d2⟩,hK4⟩:=hK3
     refine ⟨_,_,_,_,hK4,fit _ _ fun β u ok w vx kl kh km hv=>?_⟩
     cases hv with
     | emp a=>
       refine ⟨_,iD hT hk hke w a 0 0 kl kh l hh (by omega) (by simp only [Int.natCast_zero];omega) (by simp only [Int.natCast_zero];omega),?_⟩
       simp only [Int.natCast_zero,d1,d2]
       exact .emp _
    ·obtain ⟨⟨d1,d2⟩,hK4⟩:=hK3
     refine ⟨_,_,_,_,hK4,fit _ _ fun β u ok w vx kl kh km hv=>?_⟩
     cases hv with
     | aj=>
       refine ⟨_,iD hT hk hke w none 0 0 kl kh l hh (by omega) (by simp only [Int.natCast_zero];omega) (by simp only [Int.natCast_zero];omega),?_⟩
       simp only [Int.natCast_zero,d1,d2]
       exact .emp _
    ·exact hK3.elim
  ·rename_i n e hk
   obtain ⟨hb,hK3⟩:=aF hK3
   simp only [Bool.and_eq_true] at hb
   have hke:=TE.aK hb.1
   have hpos:0<(T e).size:=Nat.le_of_ble_eq_true hb.2.1
   have hn:n≤1000000:=Nat.le_of_ble_eq_true hb.2.2
   split at hK3
   ·obtain ⟨cs,off,rfl,⟨rfl,d1,d2,d3⟩,hK4⟩:=pJ hK3
    obtain ⟨h1,hK4⟩:=aF hK4
    obtain ⟨ds,hK5,hl,hg⟩:=rC (List.all_eq_true.1 h1) hK4
    refine ⟨_,_,_,_,hK5,fit _ _ fun β u ok w vx kl kh km hv=>?_⟩
    cases hv.fB with
    | ref b o' _ _ us q1 q2 q3=>
      refine ⟨_,E5 hT hk hke w _ kl kh l hh d1 d2 d3,.d _ _ ?_⟩
      rw [← hl]
      by_cases hc:n=(l.getD 0).toNat
      ·have h0:ds=[]:=List.length_eq_zero_iff.1 (by omega)
       subst h0
       rw [show n-(l.getD 0).toNat=0 by omega]
       exact .lF _
      ·rw [if_neg hc,Addr.add_lit]
       refine .lst ⟨b,o'+off+(l.getD 0).toNat*(T e).size,none⟩ _ (T e).size _ (fun i j=>us (off+(l.getD 0).toNat*(T e).size+(i*(T e).size+j))) q1 rfl (by omega) (by simp only [maxLen];omega) hpos (fun i x hx=>(hg i x hx).1) (fun i x j c hx hcx=>?_) (fun i x j c hx hcx=>?_)
       all_goals
        have hj:j<(T e).size:=by rw [← (hg i x hx).1];exact (List.getElem?_eq_some_iff.1 hcx).1
        have:=(hg i x hx).2 j hj
        rw [hcx] at this
       ·have:=q2 _ _ this
        rwa [show o'+off+(l.getD 0).toNat*(T e).size+(i*(T e).size+j)=o'+(off+(l.getD 0).toNat*(T e).size+(i*(T e).size+j)) by omega]
       ·exact q3 _ _ this
   ·exact hK3.elim
  ·exact hK3.elim
end
def bH (te:TE) (k:D):Bool:=match fK te.ks k.cells with
 | true=>(match k.one with | true=>!te.k.isAgg | false=>te.k.isAgg)
 | false=>false
def oM:List (D×D)→D→Nat→Option (Nat×D)
 | [],_,_=>none
 | e::es,k,i=>match aW k.cells e.1.cells with | true=>some (i,e.2) | false=>oM es k (i+1)
def look:List (D×D)→D→Option D
 | [],_=>none
 | e::es,k=>match aW k.cells e.1.cells with | true=>some e.2 | false=>look es k
def IK:List (D×D)→D→D→List (D×D)
 | [],k,v=>[(k,v)]
 | e::es,k,v=>match aW k.cells e.1.cells with | true=>(k,v)::es | false=>e::IK es k v
def VH:List (D×D)→D→List (D×D)
 | [],_=>[]
 | e::es,k=>match aW k.cells e.1.cells with | true=>es | false=>e::VH es k
section
variable {P:Program} {T:Nat→TE} {ok:Nat→Prop} {w:World}
structure abn (P:Program) (te:TE) (kt:Nat):Prop where
 eq:abD P 10000 kt te.ks
 agg:lT P kt=te.k.isAgg
 plain:te.k.isAgg=false→∃ d,P.underlying kt=some d∧((d = .bool∧te.ks=[.b])∨(∃ k,d = .int k∧te.ks=[.i k])∨(d = .string∧te.ks=[.s]))
 wide:te.k.isAgg=true→(match P.underlying kt with | some (.array _ _) | some (.struct _)=>true | _=>false)=true
theorem TOK.lH (hT:TOK P T) {kt:Nat} (hk:(T kt).known=true) (hn:(!(T kt).ks.isEmpty)=true):abn P (T kt) kt:=by
 have hne:(T kt).ks≠[]:=by intro e;rw [e] at hn;cases hn
 obtain ⟨d,i,hf⟩:=hT.facts (TE.aK hk)
 obtain ⟨_,hs⟩:=hT.keys (TE.aK hk) hne
 have hkk:=hf.k
 have hag:lT P kt=(T kt).k.isAgg:=by
  unfold lT
  rw [hf.und,hkk]
  have:=TE.aK hk
  rw [hkk] at this
  cases d
  case struct fs=>
   simp only [kOf] at this ⊢
   split at this
   ·rename_i h;rw [if_pos h];rfl
   ·exact absurd rfl this
  case array n e=>
   simp only [kOf] at this ⊢
   split at this
   ·rename_i h;rw [if_pos h];rfl
   ·exact absurd rfl this
  all_goals first | rfl | exact absurd rfl this
 refine ⟨zh 9994 6 kt _ hs,hag,fun ha=>⟨d,hf.und,?_⟩,fun ha=>?_⟩
 ·rw [← hag] at ha
  unfold lT at ha
  rw [hf.und] at ha
  simp only [uS,hf.und] at hs
  cases d<;>simp at hs ha
  ·exact .inl ⟨rfl,hs.symm⟩
  ·exact .inr (.inl ⟨_,rfl,hs.symm⟩)
  ·exact .inr (.inr ⟨rfl,hs.symm⟩)
 ·rw [← hag] at ha
  unfold lT at ha
  split at ha<;>simp_all
theorem dY {te:TE} {k:D} (h:bH te k=true):fK te.ks k.cells=true∧k.one=!te.k.isAgg:=by
 unfold bH at h
 split at h
 ·rename_i h1
  refine ⟨h1,?_⟩
  split at h
  ·rename_i h2;rw [h2,h]
  ·rename_i h2;rw [h2,h];rfl
 ·cases h
theorem iG {te:TE} {kt:Nat} (hK:abn P te kt) {vk:Value} {k:D} (hk:RdD ok w vk k) (hfit:bH te k=true):∀ (ents:List MapEntry) (es:List (D×D)) (i:Nat),ents.length=es.length →
  (∀ (j:Nat) m e,ents[j]?=some m→es[j]?=some e→RdD ok w m.key e.1)→(∀ e∈es,bH te e.1=true) →
  ((Instr.findAsking kt vk ents i).run P w = .ok none w∧oM es k i=none∧(∀ v,IK es k v=es++[(k,v)])∧VH es k=es) ∨
  ∃ j m e,(Instr.findAsking kt vk ents i).run P w = .ok (some (i+j,m.val)) w∧ents[j]?=some m∧es[j]?=some e∧oM es k i=some (i+j,e.2)∧aW k.cells e.1.cells=true∧(∀ v,IK es k v=es.set j (k,v))∧VH es k=es.eraseIdx j
 | [],[],i,_,_,_ => .inl ⟨by simp [Instr.findAsking],rfl,fun _=>rfl,rfl⟩
 | [],_::_,_,h,_,_=>by simp at h
 | _::_,[],_,h,_,_=>by simp at h
 | m::ents,e::es,i,hl,hr,hf=>by
   obtain ⟨f1,f2⟩:=dY hfit
   obtain ⟨g1,g2⟩:=dY (hf e (by simp))
   have he:=(hK.eq ok w vk m.key k e.1 hk (hr 0 m e rfl rfl) (by rw [Shape,hK.agg];exact f2) (by rw [Shape,hK.agg];exact g2) f1 g1).1
   have he':(Op.equal kt vk m.key).run P w = .ok (aW k.cells e.1.cells) w:=he
   cases hb:aW k.cells e.1.cells with
   | true=>
     rw [hb] at he'
     exact .inr ⟨0,m,e,by simp [Instr.findAsking,he'],rfl,rfl,by simp [oM,hb],hb,fun v=>by simp [IK,hb],by simp [VH,hb]⟩
   | false=>
     rw [hb] at he'
     rcases iG hK hk hfit ents es (i+1) (by simpa using hl) (fun j m e hm he=>hr (j+1) m e (by simpa using hm) (by simpa using he)) (fun e he=>hf e (by simp [he])) with ⟨q1,q2,q3,q4⟩ | ⟨j,m',e',q1,q2,q3,q4,q5,q6,q7⟩
     ·exact .inl ⟨by simp [Instr.findAsking,he',q1],by simp [oM,hb,q2],fun v=>by simp [IK,hb,q3],by simp [VH,hb,q4]⟩
     ·exact .inr ⟨j+1,m',e',by simp [Instr.findAsking,he',q1];omega,by simpa using q2,by simpa using q3,by simp [oM,hb,q4];omega,q5,fun v=>by simp [IK,hb,q6],by simp [VH,hb,q7]⟩
theorem qV {te:TE} {kt:Nat} (hK:abn P te kt) {td:TypeDesc} (hu:P.underlying kt=some td) (ha:te.k.isAgg=false) {vk:Value} {k:D} (hk:RdD ok w vk k) (hfit:bH te k=true):∀ (ents:List MapEntry) (es:List (D×D)) (i:Nat),ents.length=es.length →
  (∀ (j:Nat) m e,ents[j]?=some m→es[j]?=some e→RdD ok w m.key e.1)→(∀ e∈es,bH te e.1=true) →
  ∃ r,Instr.findNow td vk ents i=some r∧(Instr.findAsking kt vk ents i).run P w = .ok r w
 | [],[],i,_,_,_=>⟨none,rfl,by simp [Instr.findAsking]⟩
 | [],_::_,_,h,_,_=>by simp at h
 | _::_,[],_,h,_,_=>by simp at h
 | m::ents,e::es,i,hl,hr,hf=>by
   obtain ⟨f1,f2⟩:=dY hfit
   obtain ⟨g1,g2⟩:=dY (hf e (by simp))
   have hm:=hr 0 m e rfl rfl
   have he':(Op.equal kt vk m.key).run P w = .ok (aW k.cells e.1.cells) w:=(hK.eq ok w vk m.key k e.1 hk hm (by rw [Shape,hK.agg];exact f2) (by rw [Shape,hK.agg];exact g2) f1 g1).1
   have hs:Instr.sameNow td vk m.key=some (aW k.cells e.1.cells):=by
    obtain ⟨d,hd,hcase⟩:=hK.plain ha
    rw [hu] at hd
    simp only [Option.some.injEq] at hd
    subst hd
    rw [ha] at f2 g2
    generalize e.1=ek at hm g1 g2
    rcases hcase with ⟨rfl,hks⟩ | ⟨kd,rfl,hks⟩ | ⟨rfl,hks⟩<;>rw [hks] at f1 g1
    ·cases k<;>simp [D.one,D.cells,fK,iC] at f1 f2
     cases ek<;>simp [D.one,D.cells,fK,iC] at g1 g2
     cases hk
     generalize m.key=mk at hm
     cases hm
     simp [Instr.sameNow,D.cells,aW,eq1]
    ·cases k<;>simp [D.one,D.cells,fK] at f1 f2<;>try (simp [iC] at f1;done)
     cases ek<;>simp [D.one,D.cells,fK] at g1 g2<;>try (simp [iC] at g1;done)
     rename_i k1 n1 k2 n2
     have e1:kd=k1:=oL (n:=n1) (by split at f1;assumption;cases f1)
     have e2:kd=k2:=oL (n:=n2) (by split at g1;assumption;cases g1)
     subst e1;subst e2
     cases hk
     generalize m.key=mk at hm
     cases hm
     simp [Instr.sameNow,D.cells,aW,eq1]
    ·cases k<;>simp [D.one,D.cells,fK,iC] at f1 f2
     cases ek<;>simp [D.one,D.cells,fK,iC] at g1 g2
     rename_i s1 s2
     cases hk
     generalize m.key=mk at hm
     cases hm
     have ea:(⟨s1.toArray⟩:ByteArray).toList=s1:=by rw [ByteArray.toList_eq]
     have eb:(⟨s2.toArray⟩:ByteArray).toList=s2:=by rw [ByteArray.toList_eq]
     simp [Instr.sameNow,D.cells,aW,eq1,beq_toListBytes,ea,eb]
   cases hb:aW k.cells e.1.cells with
   | true=>
     rw [hb] at he' hs
     exact ⟨some (i,m.val),by simp [Instr.findNow,hs],by simp [Instr.findAsking,he']⟩
   | false=>
     rw [hb] at he' hs
     obtain ⟨r,q1,q2⟩:=qV hK hu ha hk hfit ents es (i+1) (by simpa using hl) (fun j m e hm he=>hr (j+1) m e (by simpa using hm) (by simpa using he)) (fun e he=>hf e (by simp [he]))
     exact ⟨r,by simp [Instr.findNow,hs,q1],by simp [Instr.findAsking,he',q2]⟩
theorem kD {te:TE} {kt:Nat} (hK:abn P te kt) {vk:Value} {k:D} (hk:RdD ok w vk k) (hfit:bH te k=true) (ents:List MapEntry) (es:List (D×D)) (hl:ents.length=es.length)
  (hr:∀ (j:Nat) m e,ents[j]?=some m→es[j]?=some e→RdD ok w m.key e.1) (hf:∀ e∈es,bH te e.1=true) :
  (Instr.findKey kt vk ents).run P w=(Instr.findAsking kt vk ents).run P w:=by
 cases ha:te.k.isAgg with
 | true=>exact run_findKey_eq w (hK.wide ha) vk ents
 | false=>
   obtain ⟨d,hd,_⟩:=hK.plain ha
   obtain ⟨r,q1,q2⟩:=qV hK hd ha hk hfit ents es 0 hl hr hf
   rw [Go.MapKept.run_findKey hd q1,q2]
theorem nJ {te:TE} {kt:Nat} (hK:abn P te kt) {vk:Value} {k:D} (hk:RdD ok w vk k) (hfit:bH te k=true) (em:Bool):(Instr.checkKey em 10000 kt vk).run P w = .ok () w:=by
 obtain ⟨f1,f2⟩:=dY hfit
 exact (hK.eq ok w vk vk k k hk hk (by rw [Shape,hK.agg];exact f2) (by rw [Shape,hK.agg];exact f2) f1 f1).2 em
theorem zY:∀ {xs ys:List D},xs.length=ys.length→aW xs ys=true→∀ (i:Nat) x y,xs[i]?=some x→ys[i]?=some y→eq1 x y=true
 | [],_,_,_,i,x,y,h,_=>by simp at h
 | _::_,[],h,_,_,_,_,_,_=>by simp at h
 | x::xs,y::ys,hl,h,i,a,b,ha,hb=>by
   rw [kM x y xs ys (by simpa using hl)] at h
   simp only [Bool.and_eq_true] at h
   cases i with
   | zero=>simp at ha hb;subst ha;subst hb;exact h.1
   | succ i=>exact zY (by simpa using hl) h.2 i a b (by simpa using ha) (by simpa using hb)
theorem qU:∀ {ks:List SK} {cs:List D},fK ks cs=true→∀ (i:Nat) k c,ks[i]?=some k→cs[i]?=some c→iC k c=true
 | [],_,_,i,k,c,h,_=>by simp at h
 | _::_,[],h,_,_,_,_,_=>by simp [fK] at h
 | k::ks,c::cs,h,i,k',c',hk,hc=>by
   unfold fK at h
   split at h
   ·rename_i h1
    cases i with
    | zero=>simp at hk hc;subst hk;subst hc;exact h1
    | succ i=>exact qU h i k' c' (by simpa using hk) (by simpa using hc)
   ·cases h
theorem wF {n:Nat} {k:SK} {x y:D} {vx vy:Value} (hx:RdD ok w vx x) (hy:RdD ok w vy y) (fx:iC k x=true) (fy:iC k y=true) (h:eq1 x y=true):Instr.sameBits n vy vx=true:=by
 cases k
 ·cases x<;>simp [iC] at fx
  cases y<;>simp [iC] at fy
  cases hx;cases hy
  simp [eq1] at h
  simp [Instr.sameBits,h]
 ·cases x<;>try (simp [iC] at fx;done)
  cases y<;>try (simp [iC] at fy;done)
  rename_i kd k1 n1 k2 n2
  have e1:kd=k1:=oL (n:=n1) fx
  have e2:kd=k2:=oL (n:=n2) fy
  subst e1;subst e2
  cases hx;cases hy
  simp [eq1] at h
  simp [Instr.sameBits,h]
 ·cases x<;>simp [iC] at fx
  cases y<;>simp [iC] at fy
  cases hx;cases hy
  simp [eq1] at h
  subst h
  have e:∀ (a b:ByteArray),Instr.sameBits n (.string a) (.string b)=(a==b):=fun a b=>by cases n<;>rfl
  rw [e,beq_toListBytes]
  simp
theorem run_keyThatStays {te:TE} {vk vo:Value} {k ko:D} (hk:RdD ok w vk k) (ho:RdD ok w vo ko) (fk:bH te k=true) (fo:bH te ko=true) (h:aW k.cells ko.cells=true):(Instr.keyThatStays vo vk).run P w = .ok vk w:=by
 obtain ⟨f1,f2⟩:=dY fk
 obtain ⟨g1,g2⟩:=dY fo
 have hlen:k.cells.length=ko.cells.length:=by rw [dn f1,dn g1]
 suffices hs:Instr.sameBits 10000 vo vk=true by simp [Instr.keyThatStays,hs]
 obtain ⟨c1,c2⟩:=hk.cellsOf
 obtain ⟨d1,d2⟩:=ho.cellsOf
 cases ha:te.k.isAgg with
 | true=>
   rw [ha] at f2 g2
   cases k<;>simp [D.one] at f2
   cases ko<;>simp [D.one] at g2
   rename_i cs ds
   cases hk with
   | agg vs _ p1 p2 p3=>cases ho with
     | agg us _ q1 q2 q3=>
       simp only [D.cells] at *
       show (us.size==vs.size&&(us.toList.zip vs.toList).all fun (x,y)=>Instr.sameBits 9999 x y)=true
       rw [Bool.and_eq_true]
       refine ⟨by simp [p1,q1,hlen],List.all_eq_true.2 fun ⟨a,b⟩ hab=>?_⟩
       obtain ⟨i,hi⟩:=List.getElem?_of_mem hab
       rw [List.getElem?_zip_eq_some] at hi
       have hia:us[i]?=some a:=by simpa using hi.1
       have hib:vs[i]?=some b:=by simpa using hi.2
       have hlt:i<cs.length:=by rw [← p1];exact (Array.getElem?_eq_some_iff.1 hib).1
       have hlt':i<ds.length:=by omega
       have hks:i<te.ks.length:=by rw [← dn f1];exact hlt
       exact wF (p2 i b cs[i] hib (by simp)) (q2 i a ds[i] hia (by simp)) (qU f1 i te.ks[i] cs[i] (by simp) (by simp)) (qU g1 i te.ks[i] ds[i] (by simp) (by simp)) (zY hlen h i _ _ (by simp) (by simp))
 | false=>
   rw [ha] at f2 g2
   have ek:k.cells=[k]:=by cases k<;>first | rfl | simp [D.one] at f2
   have eo:ko.cells=[ko]:=by cases ko<;>first | rfl | simp [D.one] at g2
   rw [ek] at f1 h
   rw [eo] at g1 h
   obtain ⟨k0,hks⟩:∃ k0,te.ks=[k0]:=by
    have:=dn f1
    cases hq:te.ks with
    | nil=>rw [hq] at this;simp at this
    | cons a r=>cases r with
      | nil=>exact ⟨a,rfl⟩
      | cons b1 r=>rw [hq] at this;simp at this
   rw [hks] at f1 g1
   exact wF hk ho (qU f1 0 k0 k rfl rfl) (qU g1 0 k0 ko rfl rfl) (by simpa [aW] using h)
end
end Go.Abs
