/- Rows of rows of the call's own: made, a row handed out, a row put in. -/
import Derived.Test.YtdonenoiehdahaaGreatAbsLAnd
set_option linter.all false
namespace Go.Abs
open Go Go.RowKit
def qF (r:Option Res) (K:Nat→List (List D)→Option (Nat×Nat)→Prop):Prop:=match r with | some (.rows sz rs out)=>K sz rs out | _=>False
theorem jr {r:Option Res} {K:Nat→List (List D)→Option (Nat×Nat)→Prop} (h:qF r K):∃ sz rs out,r=some (.rows sz rs out)∧K sz rs out:=by
 unfold qF at h;split at h
 ·exact ⟨_,_,_,rfl,h⟩
 ·exact h.elim
theorem bT.nil (ok:Nat→Prop) (w:World) (a:Option Addr) {sz:Nat} (hp:0<sz):bT ok w (.slice a 0 0) sz []:=⟨a,0,rfl,by simp,by simp [maxLen],hp,by simp,fun h=>by omega⟩
section
variable {C:Ctx} {β:Nat→Value} {ok:Nat→Prop} {s:S} {a:Act} {w:World}
theorem RelB.lI (h:RelB C β ok s a w) {id sz b:Nat} {rs:List (List D)} {out:Option (Nat×Nat)} (hr:s.hp (id,0)=some (.rows sz rs out)) (hb:Blk β w (id,0) (.rows sz rs out) b) {k:Key} {r:Res} (hk:s.hp k=some r) (hne:k≠(id,0)):¬ Blk β w k r b:=by
 intro hb';have hid:=h.inj k (id,0) r _ b hk hr hb' hb;obtain ⟨k1,k2⟩:=k;simp only at hid;subst hid;obtain ⟨_,ho⟩:=h.heap _ _ hk;obtain ⟨_,_,⟨a',cap,f1,_⟩,_⟩:=h.heap _ _ hr;cases r with
 | cell x=>obtain ⟨b2,c2,T2,v2,g1,_⟩:=ho;simp only at f1 g1;rw [f1] at g1;cases g1
 | arr sz' ys=>exact hne (by have:=ho.1;simp only at this;rw [this])
 | map es=>exact hne (by have:=ho.1;simp only at this;rw [this])
 | rows sz rs out=>exact hne (by have:=ho.1;simp only at this;rw [this])
theorem RelB.ZE (h:RelB C β ok s a w) {id sz b:Nat} {xs:List D} (hr:s.hp (id,0)=some (.arr sz xs)) (hb:aB (β id)=some b) {k:Key} {r:Res} (hk:s.hp k=some r) (hb':Blk β w k r b):k=(id,0):=by
 refine Classical.byContradiction fun hne=>h.other hr hb hk hne hb'
theorem RelB.Xl (h:RelB C β ok s a w) {dst:Option Tmp} (hd:∀ d,dst=some d→d<C.nt) {id:Nat} (hid:¬ s.used id) {cur:Array Value} (T:TypeId) {sz n cap:Nat} (hsz:0<sz)
  (hcap:n≤cap) (hm:cap≤maxLen) (hcs:cap≤cur.size) (hx:∀ i,i<n→cur[i]?=some (.slice none 0 0)) :
  ∃ β',RelB C β' ok (s.apply dst (.rsl id n) [((id,0),some (.rows sz (List.replicate n []) none))] [id]) (a.put dst (.slice (some ⟨w.heap.size,0,none⟩) n cap)) (w.alloc (.cells cur T)):=by
 have hsize:=h.size_le;have hβ:=lK (β:=β) (v := .slice (some ⟨w.heap.size,0,none⟩) n cap) hid;have hk:=iE h.okb (.cells cur T);have hblk:∀ b,Blk (ghost β id (.slice (some ⟨w.heap.size,0,none⟩) n cap)) (w.alloc (.cells cur T)) (id,0) (.rows sz (List.replicate n []) none) b→b=w.heap.size:=fun b hb=>by
  rcases hb with hb | ⟨a',cap',len',i,u,e1,e2,_,e4,e5⟩
  ·simp only [aJ] at hb;cases cap<;>simp [aB] at hb;exact hb.symm
  ·simp only [aJ,Value.slice.injEq,Option.some.injEq] at e1;obtain ⟨rfl,rfl,hc⟩:=e1;rw [List.length_replicate] at e2;rw [cell_of_row _ w.heap.size _ cur T (0,0) (heap_alloc_new w _)] at e4;simp only [Nat.zero_add] at e4;rw [hx i e2] at e4;cases e4;simp [aB] at e5
 refine ⟨ghost β id (.slice (some ⟨w.heap.size,0,none⟩) n cap),h.step hd hβ (fun _ h=>h) hk
  (.rsl id n cap _ (.inr (by simp)) (aJ _ _ _) (fun _=>⟨_,_,rfl⟩)) (fun k r hr _ b hb=>?_) (fun k r hm'=>?_) (fun k k' r r' b hm' hr hb hb'=>?_)
  (fun b hb=>by have:=h.okb b hb;simp;omega) (fun b hb => .inl hb) (h.frame.alloc _)⟩
 ·have:=h.sep k r b hr hb;exact ⟨⟨this.1,by simp;omega⟩,.inl (heap_alloc_old w _ b this.2.1)⟩
 ·simp at hm';obtain ⟨rfl,rfl⟩:=hm';refine ⟨.inr (by simp),⟨rfl,⟨_,cap,by simp only [List.length_replicate];exact aJ _ _ _,by simpa using hcap,hm,hsz,fun _=>⟨w.heap.size,0,cur,T,rfl,heap_alloc_new w _,by omega,fun i xs hxs=>?_,fun i j u u' c hi hj _ _ e1 e2 e3 e4=>?_⟩⟩,fun i m hm=>by cases hm⟩,fun b hb=>?_⟩
  ·have hi:i<n:=(by have:=(List.getElem?_eq_some_iff.1 hxs).1;simpa using this);have:xs=[]:=List.eq_of_mem_replicate (List.mem_of_getElem? hxs);subst this;exact ⟨_,by rw [Nat.zero_add];exact hx i hi,rfl,fun _=>⟨bT.nil _ _ _ hsz,by simp [aB]⟩,fun m hm=>by cases hm⟩
  ·rw [List.length_replicate] at hi;rw [Nat.zero_add,hx i hi] at e1;cases e1;simp [aB] at e3
  ·have:=hblk b hb;subst this;exact ⟨fun hc=>by have:=h.okb _ hc;omega,by simp,fun hc=>by omega⟩
 ·simp at hm';obtain ⟨rfl,rfl⟩:=hm';have:=hblk b hb;subst this;rcases dY s.hp [((id,0),some (Res.rows sz (List.replicate n []) none))] k' with ⟨e,hno⟩ | ⟨r0,hm'',e⟩
  ·have hr':s.hp k'=some r':=e.symm.trans hr;have:=(h.sep k' r' _ hr' (h.uZ hβ _ hr' hb')).2.1;omega
  ·simp at hm'';rw [hm''.1]
theorem RelB.rM (h:RelB C β ok s a w) {id sz:Nat} {rs:List (List D)} {out:Option (Nat×Nat)} (hr:s.hp (id,0)=some (.rows sz rs out)) {i:Nat} (hi:i<rs.length) :
  s.used id∧∃ b o cap cur T u,β id = .slice (some ⟨b,o,none⟩) rs.length cap∧rs.length≤cap∧cap≤maxLen∧0<sz∧w.heap[b]?=some (.cells cur T (0,0))∧o+cap≤cur.size∧cur[o+i]?=some u∧u.oneCell'=true ∧
   (kS out i=false→bT ok w u sz (rs[i])∧aB u≠some b∧∀ c,aB u=some c→Blk β w (id,0) (.rows sz rs out) c)∧(∀ m,out=some (i,m)→u=β m∧s.used m) ∧
   Blk β w (id,0) (.rows sz rs out) b ∧
   (∀ (j:Nat) xs,rs[j]?=some xs→∃ u,cur[o+j]?=some u∧u.oneCell'=true∧(kS out j=false→bT ok w u sz xs∧aB u≠some b)∧(∀ id,out=some (j,id)→u=β id)) ∧
   (∀ (j j':Nat) u u' c,j<rs.length→j'<rs.length→kS out j=false→kS out j'=false→cur[o+j]?=some u→cur[o+j']?=some u'→aB u=some c→aB u'=some c→j=j'):=by
 obtain ⟨hu,_,⟨a0,cap,e1,e2,e3,e4,e5⟩,hout⟩:=h.heap _ _ hr;obtain ⟨b,o,cur,T,rfl,f1,f2,f3,f4⟩:=e5 (by omega);have hx:rs[i]?=some rs[i]:=List.getElem?_eq_getElem hi;obtain ⟨u,g1,g2,g3,g4⟩:=f3 i _ hx;have e1':β id = .slice (some ⟨b,o,none⟩) rs.length cap:=e1;refine ⟨hu,b,o,cap,cur,T,u,e1',e2,e3,e4,f1,f2,g1,g2,fun hno=>⟨(g3 hno).1,(g3 hno).2,fun c hc => .inr ⟨⟨b,o,none⟩,cap-1,rs.length,i,u,?_,hi,hno,?_,hc⟩⟩,fun m hm=>⟨g4 m hm,hout i m hm⟩,.inl ?_,f3,f4⟩
 ·show β id=_;rw [e1',Nat.sub_add_cancel (by omega)]
 ·rw [cell_of_row w b (o+i) cur T (0,0) f1];exact g1
 ·show aB (β id)=_;rw [e1'];cases cap with
  | zero=>omega
  | succ n=>rfl
theorem Ql {β:Nat→Value} {w:World} {id sz b o cap:Nat} {rs:List (List D)} {out:Option (Nat×Nat)} {cur:Array Value} {T:TypeId} {fz:Nat×Nat} (e1:β id = .slice (some ⟨b,o,none⟩) rs.length cap) (hw:w.heap[b]?=some (.cells cur T fz)) {c:Nat}
  (h:Blk β w (id,0) (.rows sz rs out) c):c=b∨∃ j u,j<rs.length∧kS out j=false∧cur[o+j]?=some u∧aB u=some c:=by
 rcases h with h | ⟨a',cap',len',j,u,q1,q2,q3,q4,q5⟩
 ·simp only [e1] at h;cases cap<;>simp [aB] at h;exact .inl h.symm
 ·simp only [e1,Value.slice.injEq,Option.some.injEq] at q1;obtain ⟨rfl,rfl,rfl⟩:=q1;rw [cell_of_row w b _ cur T fz hw] at q4;exact .inr ⟨j,u,q2,q3,q4,q5⟩
theorem RelB.XH (h:RelB C β ok s a w) {dst:Option Tmp} (hd:∀ d,dst=some d→d<C.nt) {id n i sz:Nat} {rs:List (List D)} (hr:s.hp (id,0)=some (.rows sz rs none)) (hi:i<rs.length) (hn:¬ s.used n)
  {b o cap:Nat} {cur:Array Value} {T:TypeId} {u:Value} (hβid:β id = .slice (some ⟨b,o,none⟩) rs.length cap) (hw:w.heap[b]?=some (.cells cur T (0,0))) (hu:cur[o+i]?=some u) :
  ∃ β',RelB C β' ok (s.apply dst (.sl n sz 0 (rs[i]).length) [((id,0),some (.rows sz rs (some (i,n)))),((n,0),some (.arr sz (rs[i])))] [n]) (a.put dst u) w:=by
 obtain ⟨hused,b',o',cap',cur',T',u',q1,q2,q3,q4,q5,q6,q7,q8,q9,_,q11,q12,q13⟩:=h.rM hr hi;rw [hβid] at q1;simp only [Value.slice.injEq,Option.some.injEq,Addr.mk.injEq,and_true,true_and] at q1;obtain ⟨⟨rfl,rfl⟩,rfl⟩:=q1;rw [hw] at q5;simp only [Option.some.injEq,Obj.cells.injEq] at q5;obtain ⟨rfl,rfl,_⟩:=q5;rw [hu] at q7;cases q7;obtain ⟨harr,hnb,hblk⟩:=q9 rfl;have hnid:id≠n:=fun e=>hn (e ▸ hused)
 have hβ:=lK (β:=β) (v:=u) hn;have hβi:ghost β n u id=β id:=hβ id hused;have hsepu:∀ c,aB u=some c→_:=fun c hc=>h.sep _ _ c hr (hblk c hc)
 have ho:∀ j,j≠i→kS (some (i,n)) j=false:=fun j hj=>by
  show Nat.beq j i=false;cases hb:Nat.beq j i with
  | false=>rfl
  | true=>exact absurd (Nat.eq_of_beq_eq_true hb) hj
 have ho':∀ j,kS (some (i,n)) j=false→j≠i:=fun j hj e=>by
  subst e;have:Nat.beq j j=false:=hj;rw [Nat.beq_refl] at this;cases this
 have back:∀ c,Blk (ghost β n u) w (id,0) (.rows sz rs (some (i,n))) c→Blk β w (id,0) (.rows sz rs none) c∧aB u≠some c:=fun c hc=>by
  rcases Ql (hβi.trans hβid) hw hc with rfl | ⟨j,v,g1,g2,g3,g4⟩
  ·exact ⟨q11,hnb⟩
  ·refine ⟨?_,fun e=>ho' j g2 (q13 j i v u c g1 hi rfl rfl g3 hu g4 e)⟩;obtain ⟨_,_,_,_,_,_,_,p1,_,_,_,p5,_,p7,_,p9,_⟩:=h.rM hr g1;rw [hβid] at p1;simp only [Value.slice.injEq,Option.some.injEq,Addr.mk.injEq,and_true,true_and] at p1;obtain ⟨⟨rfl,rfl⟩,rfl⟩:=p1;rw [hw] at p5;simp only [Option.some.injEq,Obj.cells.injEq] at p5;obtain ⟨rfl,rfl,_⟩:=p5;rw [g3] at p7;cases p7;exact (p9 rfl).2.2 c g4
 obtain ⟨au,cu,rfl,k1,k2,k3,k4,k5⟩:=harr;refine ⟨_,h.step hd hβ (fun _ h=>h) (fun _ _=>rfl) ?_ (fun k r hr' _ c hb=>?_) (fun k r hm'=>?_) (fun k k' r r' c hm' hr' hb hb'=>?_) h.okb (fun c hc => .inl hc) h.frame⟩
 ·exact .sl n sz 0 _ _ cu au au (.inr (by simp)) (aJ _ _ _) (by omega) k2 (fun hc=>by
   obtain ⟨b2,o2,_,_,e,_⟩:=k5 hc
   exact ⟨b2,o2,e,by rw [e,Nat.zero_mul,Nat.add_zero]⟩)
 ·have:=h.sep k r c hr' hb;exact ⟨⟨this.1,this.2.1⟩,.inl rfl⟩
 ·simp only [List.mem_cons,Prod.mk.injEq,Option.some.injEq,List.not_mem_nil,or_false] at hm';rcases hm' with ⟨rfl,rfl⟩ | ⟨rfl,rfl⟩
  ·refine ⟨.inl hused,⟨rfl,⟨_,cap,hβi.trans hβid,q2,q3,q4,fun _=>⟨b,o,cur,T,rfl,hw,q6,fun j xs hx=>?_,fun j j' v v' c hj hj' hjo hjo'=>q13 j j' v v' c hj hj' rfl rfl⟩⟩,fun j m hm=>?_⟩,fun c hc=>?_⟩
   ·obtain ⟨v,e1,e2,e3,e4⟩:=q12 j xs hx;refine ⟨v,e1,e2,fun _=>e3 rfl,fun m hm=>?_⟩;simp only [Option.some.injEq,Prod.mk.injEq] at hm;obtain ⟨rfl,rfl⟩:=hm;rw [hu] at e1;cases e1;exact (aJ _ _ _).symm
   ·simp only [Option.some.injEq,Prod.mk.injEq] at hm;exact .inr (by simp [hm.2])
   ·have:=h.sep _ _ c hr (back c hc).1;exact this
  ·refine ⟨.inr (by simp),⟨rfl,by show bT ok w (ghost β n _ n) sz _;rw [aJ];exact ⟨au,cu,rfl,k1,k2,k3,k4,k5⟩⟩,fun c hc=>?_⟩;have hc:=hc.arr;rw [aJ] at hc;exact hsepu c hc
 ·simp only [List.mem_cons,Prod.mk.injEq,Option.some.injEq,List.not_mem_nil,or_false] at hm';have old:∀ {k' r'},kW s.hp [((id,0),some (Res.rows sz rs (some (i,n)))),((n,0),some (.arr sz (rs[i])))] k'=some r'→k'≠(id,0)→k'≠(n,0)→s.hp k'=some r':=fun hr' h1 h2=>by
   rcases dY s.hp [((id,0),some (Res.rows sz rs (some (i,n)))),((n,0),some (.arr sz (rs[i])))] _ with ⟨e,_⟩ | ⟨r0,hm,e⟩
   ·exact e.symm.trans hr'
   ·simp at hm;rcases hm with ⟨e,_⟩ | ⟨e,_⟩
    ·exact absurd e h1
    ·exact absurd e h2
  have oldB:∀ {k':Key} {r':Res} {c:Nat},s.hp k'=some r'→k'≠(id,0)→Blk (ghost β n (.slice au (rs[i]).length cu)) w k' r' c→Blk β w k' r' c:=fun hk hne hb=>Blk.mono (hβ _ (h.heap _ _ hk).1) (fun _ _=>rfl) hb
  by_cases e1:k'=(id,0)
  ·subst e1;have hr'':r' = .rows sz rs (some (i,n)):=by
    simp only [kW,if_true] at hr';exact (Option.some.inj hr').symm
   subst hr'';rcases hm' with ⟨rfl,rfl⟩ | ⟨rfl,rfl⟩
   ·rfl
   ·have hb:=hb.arr;rw [aJ] at hb;exact absurd hb (back c hb').2
  ·by_cases e2:k'=(n,0)
   ·subst e2;have hr'':r' = .arr sz (rs[i]):=by
     have hne:((id,0):Key)≠(n,0):=fun e=>hnid (by cases e;rfl)
     simp only [kW,if_true,if_neg hne] at hr';exact (Option.some.inj hr').symm
    subst hr'';have hb':=hb'.arr;rw [aJ] at hb';rcases hm' with ⟨rfl,rfl⟩ | ⟨rfl,rfl⟩
    ·exact absurd hb' (back c hb).2
    ·rfl
   ·have hk:=old hr' e1 e2;have hb'':=oldB hk e1 hb';rcases hm' with ⟨rfl,rfl⟩ | ⟨rfl,rfl⟩
    ·exact absurd hb'' (h.lI hr (back c hb).1 hk e1)
    ·have hb:=hb.arr;rw [aJ] at hb;exact absurd hb'' (h.lI hr (hblk c hb) hk e1)
theorem RelB.Yo (h:RelB C β ok s a w) {dst:Option Tmp} (hd:∀ d,dst=some d→d<C.nt) (vd:Value) {id i sz:Nat} {rs:List (List D)} {out:Option (Nat×Nat)} (hr:s.hp (id,0)=some (.rows sz rs out)) (hi:i<rs.length)
  (hout:∀ j m,out=some (j,m)→j=i) {b o cap:Nat} {cur cur':Array Value} {T:TypeId} (hβid:β id = .slice (some ⟨b,o,none⟩) rs.length cap) (hw:w.heap[b]?=some (.cells cur T (0,0))) {w':World}
  (hw':w'.heap[b]?=some (.cells cur' T (0,0))) (hcs:cur'.size=cur.size) {v:Value} (hv:cur'[o+i]?=some v) (hoth:∀ q,q≠o+i→cur'[q]?=cur[q]?) (hheap:∀ c,c≠b→w'.heap[c]?=w.heap[c]?) (hsz:w'.heap.size=w.heap.size)
  (hfr:Frame C.wr C.w0 w') {xs:List D} (harr:bT ok w v sz xs) (h1:v.oneCell'=true) {rm:Option Nat} (hrm:∀ c,aB v=some c→∃ m ys,rm=some m∧s.hp (m,0)=some (.arr sz ys)∧aB (β m)=some c) :
  RelB C β ok (s.apply dst .any (((id,0),some (.rows sz (rs.set i xs) none))::pX rm) []) (a.put dst vd) w':=by
 obtain ⟨hused,b',o',cap',cur0,T',u',q1,q2,q3,q4,q5,q6,q7,q8,q9,_,q11,q12,q13⟩:=h.rM hr hi;rw [hβid] at q1;simp only [Value.slice.injEq,Option.some.injEq,Addr.mk.injEq,and_true,true_and] at q1;obtain ⟨⟨rfl,rfl⟩,rfl⟩:=q1;rw [hw] at q5;simp only [Option.some.injEq,Obj.cells.injEq] at q5;obtain ⟨rfl,rfl,_⟩:=q5;have hne:∀ j,j≠i→kS out j=false:=fun j hj=>by
  cases hout':out with
  | none=>rfl
  | some x=>
    obtain ⟨j',m⟩:=x;have:=hout j' m hout';subst this;show Nat.beq j j'=false;cases hb:Nat.beq j j' with
    | false=>rfl
    | true=>exact absurd (Nat.eq_of_beq_eq_true hb) hj
 have hsb:=h.sep _ _ b hr q11;have hkeep:Keeps ok w w':=fun c hc=>hheap c (fun e=>hsb.1 (e ▸ hc))
 have hvn:∀ c,aB v=some c→¬ Blk β w (id,0) (.rows sz rs out) c:=fun c hc hb=>by
  obtain ⟨m,ys,_,g2,g3⟩:=hrm c hc;have hne:((m,0):Key)≠(id,0):=fun e=>by rw [e,hr] at g2;cases g2
  exact h.lI hr hb g2 hne (.inl g3)
 have hvb:aB v≠some b:=fun e=>hvn b e q11
 have old:∀ {j:Nat} {u:Value},j<rs.length→j≠i→cur'[o+j]?=some u→cur[o+j]?=some u:=fun {j u} _ hj hu=>by rw [← hoth (o+j) (by omega)];exact hu
 have oldBlk:∀ {j:Nat} {u:Value} {c:Nat},j<rs.length→j≠i→cur[o+j]?=some u→aB u=some c→Blk β w (id,0) (.rows sz rs out) c:=fun {j u c} hjl hj hu hc=>by
  obtain ⟨_,_,_,_,_,_,_,p1,_,_,_,p5,_,p7,_,p9,_⟩:=h.rM hr hjl;rw [hβid] at p1;simp only [Value.slice.injEq,Option.some.injEq,Addr.mk.injEq,and_true,true_and] at p1;obtain ⟨⟨rfl,rfl⟩,rfl⟩:=p1;rw [hw] at p5;simp only [Option.some.injEq,Obj.cells.injEq] at p5;obtain ⟨rfl,rfl,_⟩:=p5;rw [hu] at p7;cases p7;exact (p9 (hne j hj)).2.2 c hc
 have back:∀ c,Blk β w' (id,0) (.rows sz (rs.set i xs) none) c→Blk β w (id,0) (.rows sz rs out) c∨aB v=some c:=fun c hc=>by
  rcases Ql (by rw [List.length_set];exact hβid) hw' hc with rfl | ⟨j,u,g1,_,g3,g4⟩
  ·exact .inl q11
  ·rw [List.length_set] at g1;by_cases e:j=i
   ·subst e;rw [hv] at g3;cases g3;exact .inr g4
   ·exact .inl (oldBlk g1 e (old g1 e g3) g4)
 refine h.step hd (fun _ _=>rfl) (fun _ h=>h) hkeep (.any _) (fun k r hr' hno c hb=>?_) (fun k r hm'=>?_) (fun k k' r r' c hm' hr' hb hb'=>?_) (fun c hc=>by rw [hsz];exact h.okb c hc) (fun c hc => .inl hc) hfr
 ·have hk:k≠(id,0):=fun e=>hno (some (.rows sz (rs.set i xs) none)) (by simp [e])
  have:=h.sep k r c hr' hb;exact ⟨⟨this.1,by rw [hsz];exact this.2.1⟩,.inl (hheap c (fun e=>h.lI hr (e ▸ q11) hr' hk hb))⟩
 ·rcases List.mem_cons.1 hm' with e | hm''
  ·simp only [Prod.mk.injEq,Option.some.injEq] at e;obtain ⟨rfl,rfl⟩:=e;refine ⟨.inl hused,⟨rfl,⟨_,cap,by rw [List.length_set];exact hβid,by rw [List.length_set];exact q2,q3,q4,fun _=>⟨b,o,cur',T,rfl,hw',by rw [hcs];exact q6,fun j ys hy=>?_,fun j j' u u' c hj hj' _ _ e1 e2 e3 e4=>?_⟩⟩,fun j m hm=>by cases hm⟩,fun c hc=>?_⟩
   ·by_cases e:i=j
    ·subst e;rw [List.getElem?_set_self hi] at hy;cases hy;exact ⟨v,hv,h1,fun _=>⟨harr.mono hkeep (fun _ h=>h) (fun c hc=>hheap c (fun e=>hvb (e ▸ hc))),hvb⟩,fun m hm=>by cases hm⟩
    ·rw [List.getElem?_set_ne e] at hy;obtain ⟨u,g1,g2,g3,_⟩:=q12 j ys hy;have g3':=g3 (hne j (Ne.symm e));exact ⟨u,by rw [hoth (o+j) (by omega)];exact g1,g2,fun _=>⟨g3'.1.mono hkeep (fun _ h=>h) (fun c hc=>hheap c (fun e=>g3'.2 (e ▸ hc))),g3'.2⟩,fun m hm=>by cases hm⟩
   ·rw [List.length_set] at hj hj';by_cases ej:j=i
    ·subst ej;by_cases ej':j'=j
     ·exact ej'.symm
     ·rw [hv] at e1;cases e1;exact absurd (oldBlk hj' ej' (old hj' ej' e2) e4) (hvn c e3)
    ·by_cases ej':j'=i
     ·subst ej';rw [hv] at e2;cases e2;exact absurd (oldBlk hj ej (old hj ej e1) e3) (hvn c e4)
     ·exact q13 j j' u u' c hj hj' (hne j ej) (hne j' ej') (old hj ej e1) (old hj' ej' e2) e3 e4
   ·rcases back c hc with hc | hc
    ·have:=h.sep _ _ c hr hc;exact ⟨this.1,by rw [hsz];exact this.2.1,this.2.2⟩
    ·obtain ⟨m,ys,_,g2,g3⟩:=hrm c hc;have:=h.sep _ _ c g2 (.inl g3);exact ⟨this.1,by rw [hsz];exact this.2.1,this.2.2⟩
  ·obtain ⟨m,_,_,e⟩:=lJ hm'';cases e
 ·rcases List.mem_cons.1 hm' with e | hm''
  ·simp only [Prod.mk.injEq,Option.some.injEq] at e;obtain ⟨rfl,rfl⟩:=e;by_cases e1:k'=(id,0)
   ·rw [e1]
   ·exfalso;rcases dY s.hp (((id,0),some (.rows sz (rs.set i xs) none))::pX rm) k' with ⟨e,hno⟩ | ⟨r0,hm0,e⟩
    ·have hk:s.hp k'=some r':=e.symm.trans hr';have hb'':Blk β w k' r' c:=by
      by_cases hcell:∃ x,r' = .cell x
      ·obtain ⟨x,rfl⟩:=hcell;exact .inl hb'.cell
      ·exact Blk.mono rfl (fun c' hc'=>hheap c' (fun e=>h.lI hr (e ▸ q11) hk e1 hc')) hb'
     rcases back c hb with hc | hc
     ·exact h.lI hr hc hk e1 hb''
     ·obtain ⟨m,ys,g1,g2,g3⟩:=hrm c hc;have hid:=h.inj k' (m,0) r' _ c hk g2 hb'' (.inl g3);have:=h.ZE g2 g3 hk hb'';subst this;exact hno none (by rw [g1];simp [pX])
    ·rcases List.mem_cons.1 hm0 with e0 | hm0
     ·simp only [Prod.mk.injEq] at e0;exact e1 e0.1
     ·obtain ⟨m,_,_,e2⟩:=lJ hm0;rw [e2,hr'] at e;cases e
  ·obtain ⟨m,_,_,e⟩:=lJ hm'';cases e
theorem RelB.WS (h:RelB C β ok s a w) {id i m sz:Nat} {rs:List (List D)} {xs:List D} (hr:s.hp (id,0)=some (.rows sz rs (some (i,m)))) (hi:i<rs.length) (hm:s.hp (m,0)=some (.arr sz xs)) :
  RelB C β ok (s.apply none .any [((id,0),some (.rows sz (rs.set i xs) none)),((m,0),none)] []) a w:=by
 obtain ⟨_,b,o,cap,cur,T,u,q1,_,_,_,q5,_,q7,q8,_,q10,_⟩:=h.rM hr hi;obtain ⟨rfl,_⟩:=q10 m rfl;have:=h.Yo (dst:=none) (fun d hd=>by cases hd) undef hr hi (fun j m' e=>by cases e;rfl) q1 q5 (w':=w) q5 rfl q7 (fun _ _=>rfl) (fun _ _=>rfl) rfl h.frame (xs:=xs) (h.heap _ _ hm).2.2 q8 (rm:=some m)
  (fun c hc=>⟨m,xs,rfl,hm,hc⟩)
 exact this
end
def YT (v:Value):Bool:=match v with | .slice none 0 0=>true | _=>false
theorem Sl {v:Value} (h:YT v=true):v = .slice none 0 0:=by
 unfold YT at h;split at h
 ·rfl
 ·cases h
section
variable {P:Program} {T:Nat→TE}
def EF (T:Nat→TE) (t:Nat) (vals:List V) (n:Nat) (K:KK):Prop:=
 kX (T t) fun e=>kX (T e) fun e2=>aP (Nat.blt 0 (T e2).size&&(YT (T e).zero&&Nat.beq (T e).size 1)) <|
  match vals with
  | [l,c]=>Bc l fun _ li=>Bc c fun _ ci=>(0≤li∧li≤ci∧ci≤9223372036854775807∧((T e).bytes:Int)*ci≤281474976710656) ∧
    K (.rsl n li.toNat) [((n,0),some (.rows (T e2).size (List.replicate li.toNat []) none))] [] [n]
  | _=>False
theorem zL (hT:TOK P T) {o:Oper} {t:Nat} {l c:Operand} (ho:o.op = .makeSlice t l c) {vals:List V} {h:Key→Option Res} {n:Nat} {K:KK} (hK:EF T t vals n K) :
  ∃ x δ rd nw,K x δ rd nw∧aC P o vals h x δ rd nw:=by
 obtain ⟨e,hk,hK⟩:=fV hK;obtain ⟨e2,hk2,hK⟩:=fV hK;obtain ⟨hb,hK⟩:=ah hK;simp only [Bool.and_eq_true] at hb;have hpos:0<(T e2).size:=Nat.le_of_ble_eq_true hb.1;have hz:=Sl hb.2.1;have hs1:(T e).size=1:=Nat.eq_of_beq_eq_true hb.2.2;have hu:=hT.slc hk;obtain ⟨de,ie,hfe⟩:=hT.facts (t:=e) (by rw [hk2];intro e0;cases e0);split at hK
 ·rename_i vl vc;obtain ⟨kl,li,rfl,hK2⟩:=eU hK;obtain ⟨kc,ci,rfl,⟨h0,hlc,h63,hb⟩,hK3⟩:=eU hK2;refine ⟨_,_,_,_,hK3,aC.of_run fun C β ok s a w hr g1 g2 g3 g4 g5=>?_⟩;simp only [ho,Op.operands,List.map_cons,List.map_nil,List.cons.injEq,and_true] at g1 g5;have hx:=hr.eval l (g5 l (by simp));have hy:=hr.eval c (g5 c (by simp));rw [g1.1] at hx;rw [g1.2] at hy;have hx':=hx.fB;have hy':=hy.fB;generalize hvl:a.eval l=vl at hx';generalize hvc:a.eval c=vc at hy';cases hx';cases hy';have hrun:=run_make (P:=P) w t e ie (T e).zero hu hfe.info hfe.zero kl kc li ci h0 hlc (by rw [hfe.bytes];exact hb) h63;have hie:ie.size=1:=hfe.size.trans hs1;have hrel:=hr.Xl (dst:=o.dst) g4 (g3 n (by simp)) (cur:=madeCells (T e).zero.cells (ci.toNat*ie.size)) e (sz:=(T e2).size) (n:=li.toNat) (cap:=ci.toNat) hpos (by omega) (by simp only [maxLen];omega)
   (by rw [size_madeCells,hie];omega) (fun i hi=>by
    have hq:i<ci.toNat*ie.size:=(by rw [hie];omega);rw [hz]
    simp [madeCells,Value.cells,hq,Nat.mod_one])
  obtain ⟨β',hrel⟩:=hrel;exact ⟨_,_,.inl (by simp [execOp,ho,hvl,hvc,hrun]),β',ok,hrel⟩
 ·exact hK.elim
def yK (T:Nat→TE) (t:Nat) (vals:List V) (K:KK):Prop:=
 kX (T t) fun e=>aP ((T e).known&&Nat.beq (T e).size 1) <|
  match vals with
  | [.rsl id len,i]=>Bc i fun _ n=>(0≤n∧n<len)∧K (.jZ id n.toNat) [] [] []
  | _=>False
theorem xk (hT:TOK P T) {o:Oper} {t:Nat} {x ix:Operand} (ho:o.op = .indexAddr t x ix) {vals:List V} {h:Key→Option Res} {K:KK} (hK:yK T t vals K) :
  ∃ x δ rd nw,K x δ rd nw∧aC P o vals h x δ rd nw:=by
 obtain ⟨e,hk,hK⟩:=fV hK;obtain ⟨hb,hK⟩:=ah hK;simp only [Bool.and_eq_true] at hb;have hke:=TE.bP hb.1;have hs1:(T e).size=1:=Nat.eq_of_beq_eq_true hb.2;split at hK
 ·rename_i id len i _ _;obtain ⟨k,n,rfl,⟨h0,hlt⟩,hK⟩:=eU hK;refine ⟨_,_,_,_,hK,aC.bJ fun β u ok w ρ e' g1 g2 g3=>?_⟩;simp only [ho,Op.operands,List.map_cons,List.map_nil,List.cons.injEq,and_true] at g1 g2;have hx:=g1 x (by simp);have hi:=g1 ix (by simp);rw [g2.1] at hx;rw [g2.2] at hi;have hi':=hi.fB;generalize hvi:ρ ix=vi at hi';generalize hvx:ρ x=vx at hx;cases hi';cases hx with
  | rsl _ _ cap a q1 q2 q3=>
    obtain ⟨b,o',rfl⟩:=q3 (by omega);obtain ⟨de,ie,hfe⟩:=hT.facts hke;have hu:=hT.slc hk;refine ⟨.pointer (some ⟨b,o'+n.toNat,none⟩),?_,.jZ id n.toNat b o' _ cap q1 q2⟩;simp [execOp,ho,hvi,hvx,Instr.indexAt,run_underlying hu,asIntOf,hfe.sizeOf,h0,hlt,Addr.add_lit,hs1]
 ·exact hK.elim
def QO (te:TE) (vals:List V) (h:Key→Option Res) (n:Nat) (K:KK):Prop:=
 aP te.one <| match vals with
 | [.jZ id i]=>qF (h (id,0)) fun sz rs out=>match out with
   | none=>∃ xs,rs[i]?=some xs∧K (.sl n sz 0 xs.length) [((id,0),some (.rows sz rs (some (i,n)))),((n,0),some (.arr sz xs))] [(id,0)] [n]
   | some (j,m)=>(i=j∧i<rs.length)∧jw (h (m,0)) fun sz2 xs=>K (.sl m sz2 0 xs.length) [] [(id,0),(m,0)] []
 | _=>False
theorem FW (hT:TOK P T) {o:Oper} {t:Nat} {x:Operand} (ho:o.op = .load t x) {vals:List V} {h:Key→Option Res} {n:Nat} {K:KK} (hK:QO (T t) vals h n K) :
  ∃ x δ rd nw,K x δ rd nw∧aC P o vals h x δ rd nw:=by
 obtain ⟨ho1,hK⟩:=ah hK;obtain ⟨hk1,hk2⟩:=TE.rY ho1;obtain ⟨dt,it,hf⟩:=hT.facts (t:=t) hk1;split at hK
 ·rename_i id i _;obtain ⟨sz,rs,out,hh,hK⟩:=jr hK;split at hK
  ·obtain ⟨xs,hx,hK⟩:=hK;have hi:i<rs.length:=(List.getElem?_eq_some_iff.1 hx).1;have hxs:rs[i]=xs:=(List.getElem?_eq_some_iff.1 hx).2;refine ⟨_,_,_,_,hK,aC.of_run fun C β ok s a w hr g1 g2 g3 g4 g5=>?_⟩;simp only [ho,Op.operands,List.map_cons,List.map_nil,List.cons.injEq,and_true] at g1 g5;have hv:=hr.eval x (g5 x (by simp));rw [g1] at hv;have hr0:s.hp (id,0)=some (.rows sz rs none):=(g2 (id,0) (by simp)).trans hh;obtain ⟨_,b,o',cap,cur,T',u,q1,_,_,_,q5,_,q7,_⟩:=hr.rM hr0 hi;generalize hvx:a.eval x=vx at hv;cases hv with
   | jZ _ _ b2 o2 n2 cap2 p1 p2=>
     rw [q1] at p2;simp only [Value.slice.injEq,Option.some.injEq,Addr.mk.injEq,and_true] at p2;obtain ⟨⟨rfl,rfl⟩,_,_⟩:=p2;obtain ⟨β',hrel⟩:=hr.XH (dst:=o.dst) g4 hr0 hi (g3 n (by simp)) q1 q5 q7;rw [hxs] at hrel;exact ⟨u,w,.inl (by simp [execOp,ho,hvx,Instr.loadAt,Instr.sureAddr,hf.kC hk1 hk2 w b (o'+i) u (by rw [cell_of_row w b _ cur T' (0,0) q5];exact q7)]),β',ok,hrel⟩
  ·rename_i j m;obtain ⟨⟨rfl,hi⟩,hK⟩:=hK;obtain ⟨sz2,xs,hm,hK⟩:=bW hK;refine ⟨_,_,_,_,hK,aC.of_run fun C β ok s a w hr g1 g2 g3 g4 g5=>?_⟩;simp only [ho,Op.operands,List.map_cons,List.map_nil,List.cons.injEq,and_true] at g1 g5;have hv:=hr.eval x (g5 x (by simp));rw [g1] at hv;have hr0:s.hp (id,0)=some (.rows sz rs (some (i,m))):=(g2 (id,0) (by simp)).trans hh;have hm0:s.hp (m,0)=some (.arr sz2 xs):=(g2 (m,0) (by simp)).trans hm;obtain ⟨_,b,o',cap,cur,T',u,q1,_,_,_,q5,_,q7,_,_,q10,_⟩:=hr.rM hr0 hi;obtain ⟨rfl,hum⟩:=q10 m rfl;obtain ⟨_,_,am,cm,f1,f2,f3,f4,f5,f6⟩:=hr.heap _ _ hm0;have f1:β m = .slice am xs.length cm:=f1;generalize hvx:a.eval x=vx at hv;cases hv with
   | jZ _ _ b2 o2 n2 cap2 p1 p2=>
     rw [q1] at p2;simp only [Value.slice.injEq,Option.some.injEq,Addr.mk.injEq,and_true] at p2;obtain ⟨⟨rfl,rfl⟩,_,_⟩:=p2;refine ⟨β m,w,.inl (by simp [execOp,ho,hvx,Instr.loadAt,Instr.sureAddr,hf.kC hk1 hk2 w b (o'+i) (β m) (by rw [cell_of_row w b _ cur T' (0,0) q5];exact q7)]),β,ok,hr.put g4 ?_⟩
     have hsl:RdV β s.used ok w (.slice am xs.length (cm-0)) (.sl m sz2 0 xs.length) := .sl m sz2 0 xs.length xs.length cm am am hum f1 (by omega) f3 (fun hc=>by
      obtain ⟨b3,o3,_,_,e,_⟩:=f6 hc
      exact ⟨b3,o3,e,by rw [e,Nat.zero_mul,Nat.add_zero]⟩)
     rw [Nat.sub_zero,← f1] at hsl;exact hsl
 ·exact hK.elim
def MS (te:TE) (vals:List V) (h:Key→Option Res) (K:KK):Prop:=
 aP (te.one&&Nat.beq te.size 1) <| match vals with
 | [.jZ id i,v]=>qF (h (id,0)) fun sz rs out=>aP (Nat.blt 0 sz) ((i<rs.length∧(match out with | none=>True | some (j,_)=>j=i)) ∧
   QY sz v h fun ds rm rd=>K .any (((id,0),some (.rows sz (rs.set i ds) none))::pX rm) ((id,0)::rd) [])
 | _=>False
theorem ED (hT:TOK P T) {o:Oper} {t:Nat} {x y:Operand} (ho:o.op = .store t x y) {vals:List V} {h:Key→Option Res} {K:KK} (hK:MS (T t) vals h K) :
  ∃ x δ rd nw,K x δ rd nw∧aC P o vals h x δ rd nw:=by
 obtain ⟨hb,hK⟩:=ah hK;simp only [Bool.and_eq_true] at hb;obtain ⟨hk1,hk2⟩:=TE.rY hb.1;have hs1:(T t).size=1:=Nat.eq_of_beq_eq_true hb.2;obtain ⟨dd,ii,hf⟩:=hT.facts hk1;split at hK
 ·rename_i id i v _;obtain ⟨sz,rs,out,hh,hK⟩:=jr hK;obtain ⟨hp,⟨hi,hout⟩,hK⟩:=ah hK;obtain ⟨ds,rm,rd,hK,h1⟩:=EU (Nat.le_of_ble_eq_true hp) hK;refine ⟨_,_,_,_,hK,aC.of_run fun C β ok s a w hr g1 g2 g3 g4 g5=>?_⟩;simp only [ho,Op.operands,List.map_cons,List.map_nil,List.cons.injEq,and_true] at g1 g5;have hx:=hr.eval x (g5 x (by simp));have hy:=hr.eval y (g5 y (by simp));rw [g1.1] at hx;rw [g1.2] at hy;obtain ⟨q1,q2⟩:=h1 C β ok s a w _ hr (fun k hk=>g2 k (by simp [hk])) hy;have hr0:s.hp (id,0)=some (.rows sz rs out):=(g2 (id,0) (by simp)).trans hh;obtain ⟨_,b,o',cap,cur,Tb,u,p1,_,_,_,p5,p6,p7,_,_,_,p11,_⟩:=hr.rM hr0 hi;have hone:(a.eval y).oneCell'=true:=by
   obtain ⟨_,_,e,_⟩:=q1;rw [e];rfl
  have hcells:(a.eval y).cells.toList=[a.eval y]:=by
   obtain ⟨_,_,e,_⟩:=q1;rw [e];rfl
  generalize hvx:a.eval x=vx at hx;cases hx with
  | jZ _ _ b2 o2 n2 cap2 r1 r2=>
    rw [p1] at r2;simp only [Value.slice.injEq,Option.some.injEq,Addr.mk.injEq,and_true] at r2;obtain ⟨⟨rfl,rfl⟩,_,_⟩:=r2;have hlt:o'+i<cur.size:=(Array.getElem?_eq_some_iff.1 p7).1;have hfit:o'+i+[a.eval y].length≤cur.size:=by simp only [List.length_cons,List.length_nil];omega
    have hst:=ql (P:=P) w hf b (o'+i) cur Tb p5 (a.eval y) (by rw [← Array.length_toList,hcells,hs1];rfl) (by rw [← Array.length_toList,hcells];exact hfit) (fun u hu=>by
     rw [hcells] at hu;simp only [List.mem_singleton] at hu
     rw [hu];exact hone)
    rw [hcells] at hst;have hsep:=hr.sep _ _ b hr0 p11;have hrel:=hr.Yo (dst:=o.dst) g4 undef hr0 hi (fun j m e=>by subst e;exact hout) p1 p5 (w':=w.setRow b (patch cur (o'+i) [a.eval y])) (setRow_heap w b cur _ Tb (0,0) p5) (fC hfit) (v:=a.eval y)
     (by have:=pz hfit (i:=0) (by simp);simpa using this) (fun q hq=>jg hfit (by simp only [List.length_cons,List.length_nil];omega)) (fun c hc=>setRow_other w b c _ hc) (size_setRow _ _ _)
     (kY hr.frame p5 (fC hfit) (fun hb0 q hq=>absurd (hsep.2.2 hb0 q) hq) (fun hb0=>⟨0,hsep.2.2 hb0 0⟩)) q1 hone (rm:=rm) q2
    exact ⟨undef,_,.inr ⟨by simp [execOp,ho,hvx,hst],rfl⟩,β,ok,hrel⟩
 ·exact hK.elim
end
def NS (ok:Nat→Prop) (w:World) (v:Value):List D→Prop
 | [r]=>RdD ok w v r
 | rs=>∃ vs:Array Value,v = .tuple vs∧vs.size=rs.length∧∀ (i:Nat) u r,vs[i]?=some u→rs[i]?=some r→RdD ok w u r
structure Pure (P:Program) (f:FuncId) (ds rs:List D):Prop where
 there:∃ fn,P.funcs[f]?=some fn∧(fn.name == "runtime.NumGoroutine")=false∧fn.body.isNone=false
 calls:∀ (ok:Nat→Prop) (w:World) (vs:Array Value),GOK ok w→(∀ b,ok b→b<w.heap.size)→vs.size=ds.length→(∀ (i:Nat) v d,vs[i]?=some v→ds[i]?=some d→RdD ok w v d) →
  Calls P f vs w fun e w'=>∃ v,e = .returned v∧Frame (fun _ _=>False) w w'∧NS (fun b=>ok b∨(w.heap.size≤b∧b<w'.heap.size)) w' v rs
theorem Frame.lX {w w':World} (h:Frame (fun _ _=>False) w w') (b:Nat) (hb:b<w.heap.size):w'.heap[b]?=w.heap[b]?:=h.blk b hb (fun _ h=>h)
theorem Frame.Rx {wr:Nat→Nat→Prop} {w0 w w':World} (h:Frame wr w0 w) (k:Frame (fun _ _=>False) w w'):Frame wr w0 w':=
 ⟨k.os.trans h.os,k.tape.trans h.tape,k.output.trans h.output,Nat.le_trans h.size k.size,fun b hb hn=>(k.lX b (Nat.lt_of_lt_of_le hb h.size)).trans (h.blk b hb hn),
  fun b c T fz hb=>by
   obtain ⟨c',h1,h2⟩:=h.cel b c T fz hb
   exact ⟨c',(k.lX b (Array.getElem?_eq_some_iff.1 h1).1).trans h1,h2⟩⟩
def yQ (h:Key→Option Res) (id:Nat):Nat→Nat→(List D→List Key→Prop)→Prop
 | 0,_,K=>K [] []
 | n+1,o,K=>match h (id,o) with
   | some (.cell (.d d))=>yQ h id n (o+1) fun ds rd=>K (d::ds) ((id,o)::rd)
   | some (.cell (.sl id2 sz off len))=>jw (h (id2,0)) fun sz2 xs=>aP (Nat.beq sz sz2) (∃ ys,(xs.drop off).take len=ys∧off+len≤xs.length∧yQ h id n (o+1) fun ds rd=>K (.list ys::ds) ((id,o)::(id2,0)::rd))
   | _=>K [] []
def J8 (h:Key→Option Res) (k:Key) (d:D) (rd:List Key):Prop:=
 k∈rd∧(h k=some (.cell (.d d))∨∃ id2 sz off len xs,h k=some (.cell (.sl id2 sz off len))∧h (id2,0)=some (.arr sz xs)∧off+len≤xs.length∧d = .list ((xs.drop off).take len)∧(id2,0)∈rd)
theorem J8.more {h:Key→Option Res} {k:Key} {d:D} {rd rd':List Key} (hs:∀ x∈rd,x∈rd') (hc:J8 h k d rd):J8 h k d rd':=by
 obtain ⟨h1,h2⟩:=hc;refine ⟨hs _ h1,h2.imp id ?_⟩;rintro ⟨id2,sz,off,len,xs,g1,g2,g3,g4,g5⟩;exact ⟨id2,sz,off,len,xs,g1,g2,g3,g4,hs _ g5⟩
theorem qJ {h:Key→Option Res} {id:Nat}:∀ {n o:Nat} {K:List D→List Key→Prop},yQ h id n o K→∃ ds rd,K ds rd∧∀ (j:Nat) d,ds[j]?=some d→J8 h (id,o+j) d rd
 | 0,o,K,hK=>⟨[],[],hK,fun j d hd=>by simp at hd⟩
 | n+1,o,K,hK=>by
   unfold yQ at hK;split at hK
   ·rename_i d hd;obtain ⟨ds,rd,h1,h2⟩:=qJ hK;refine ⟨d::ds,_,h1,fun j d' hj=>?_⟩;cases j with
    | zero=>simp at hj;subst hj;exact ⟨by simp,.inl hd⟩
    | succ j=>
      have:=(h2 j d' (by simpa using hj)).more (rd':=(id,o)::rd) (fun x hx=>by simp [hx])
      rwa [show o+1+j=o+(j+1) by omega] at this
   ·rename_i id2 sz off len hd;obtain ⟨sz2,xs,hh,hK⟩:=bW hK;obtain ⟨hs,ys,rfl,hl,hK5⟩:=ah hK;have e:sz=sz2:=Nat.eq_of_beq_eq_true hs;subst e;obtain ⟨ds,rd,h1,h2⟩:=qJ hK5;refine ⟨_::ds,_,h1,fun j d' hj=>?_⟩;cases j with
    | zero=>simp at hj;subst hj;exact ⟨by simp,.inr ⟨id2,sz,off,len,xs,hd,hh,hl,rfl,by simp⟩⟩
    | succ j=>
      have:=(h2 j d' (by simpa using hj)).more (rd':=(id,o)::(id2,0)::rd) (fun x hx=>by simp [hx])
      rwa [show o+1+j=o+(j+1) by omega] at this
   ·exact ⟨[],[],hK,fun j d hd=>by simp at hd⟩
def Yg (v:V) (h:Key→Option Res) (K:D→List Key→Prop):Prop:=
 match v with
 | .d x=>K x []
 | .aG=>K (.list []) []
 | .emp=>K (.list []) []
 | .sl id sz off len=>jw (h (id,0)) fun sz2 xs=>aP (Nat.beq sz sz2) (∃ ys,(xs.drop off).take len=ys∧off+len≤xs.length∧K (.list ys) [(id,0)])
 | .ptr id off=>yQ h id 16 0 fun ds rd=>match ds with
   | []=>False
   | d::ds=>K (.ref (d::ds) off) rd
 | .rsl id _=>qF (h (id,0)) fun _ rs out=>match out with
   | none=>K (.list (rs.map D.list)) [(id,0)]
   | some _=>False
 | _=>False
def Rq (vs:List V) (h:Key→Option Res) (K:List D→List Key→Prop):Prop:=
 match vs with
 | []=>K [] []
 | v::vs=>Yg v h fun d rd=>Rq vs h fun ds rd'=>K (d::ds) (rd++rd')
def Ro (v:V) (h:Key→Option Res) (K:D→List Key→Prop):Prop:=
 match v with
 | .func (.func f) [] cs=>Rq cs h fun ds rd=>K (.fn f ds) rd
 | v=>Yg v h K
def Rn (vs:List V) (h:Key→Option Res) (K:List D→List Key→Prop):Prop:=
 match vs with
 | []=>K [] []
 | v::vs=>Ro v h fun d rd=>Rn vs h fun ds rd'=>K (d::ds) (rd++rd')
def V9 (v:V) (h:Key→Option Res) (K:D→List Key→Prop):Prop:=
 match v with
 | .agg cs=>Rn cs h fun ds rd=>K (.agg ds) rd
 | v=>Ro v h K
def args (vs:List V) (h:Key→Option Res) (K:List D→List Key→Prop):Prop:=
 match vs with
 | []=>K [] []
 | v::vs=>V9 v h fun d rd=>args vs h fun ds rd'=>K (d::ds) (rd++rd')
def Reads (h:Key→Option Res) (v:V) (d:D) (rd:List Key):Prop:=
 ∀ (β:Nat→Value) (u ok ok':Nat→Prop) (w:World) val,RdV β u ok w val v→(∀ k∈rd,∀ r,h k=some r→Own β u ok w k r∧∀ b,Blk β w k r b→ok' b)→(∀ b,ok b→ok' b)→RdD ok' w val d
theorem RdD.Du {ok ok':Nat→Prop} {w:World} {β:Nat→Value} {u:Nat→Prop} {val:Value} {id sz off len:Nat} {xs:List D} (hv:RdV β u ok w val (.sl id sz off len)) (ho:bT ok w (β id) sz xs) (hl:off+len≤xs.length)
  (hb:∀ b,aB (β id)=some b→ok' b) (hok:∀ b,ok b→ok' b):RdD ok' w val (.list ((xs.drop off).take len)):=by
 obtain ⟨⟨a,cap,rfl,h1,h2,h3,h4,h5⟩,h6⟩:=ho.sub hv hl;rcases Nat.eq_zero_or_pos cap with h0 | h0
 ·subst h0;have:(xs.drop off).take len=[]:=List.length_eq_zero_iff.1 (by omega);rw [this];exact .lC _
 ·obtain ⟨b,o,cur,T,rfl,g1,g2,g3⟩:=h5 h0
  have hbl:ok' b:=hb b (h6 b (by cases cap with
   | zero=>omega
   | succ n=>rfl))
  refine .lst ⟨b,o,none⟩ cap sz _ (fun i j=>(cur[o+(i*sz+j)]?).getD undef) hbl rfl h1 h2 h3 h4 (fun i x j c hx hc=>?_) (fun i x j c hx hc=>?_)
  ·obtain ⟨u0,p1,p2,p3⟩:=g3 i x j c hx hc;rw [cell_of_row w b _ cur T (0,0) g1,p1];exact ⟨rfl,p3⟩
  ·obtain ⟨u0,p1,p2,p3⟩:=g3 i x j c hx hc;rw [p1];exact p2.mono (fun _ _=>rfl) hok
theorem bT.rd {ok ok':Nat→Prop} {w:World} {v:Value} {sz:Nat} {xs:List D} (h:bT ok w v sz xs) (hb:∀ b,aB v=some b→ok' b) (hok:∀ b,ok b→ok' b):RdD ok' w v (.list xs):=by
 obtain ⟨a,cap,rfl,h1,h2,h3,h4,h5⟩:=h;rcases Nat.eq_zero_or_pos cap with h0 | h0
 ·subst h0;have:xs=[]:=List.length_eq_zero_iff.1 (by omega);rw [this];exact .lC _
 ·obtain ⟨b,o,cur,T,rfl,g1,g2,g3⟩:=h5 h0
  have hbl:ok' b:=hb b (by cases cap with
   | zero=>omega
   | succ n=>rfl)
  refine .lst ⟨b,o,none⟩ cap sz _ (fun i j=>(cur[o+(i*sz+j)]?).getD undef) hbl rfl h1 h2 h3 h4 (fun i x j c hx hc=>?_) (fun i x j c hx hc=>?_)
  ·obtain ⟨u0,p1,p2,p3⟩:=g3 i x j c hx hc;rw [cell_of_row w b _ cur T (0,0) g1,p1];exact ⟨rfl,p3⟩
  ·obtain ⟨u0,p1,p2,p3⟩:=g3 i x j c hx hc;rw [p1];exact p2.mono (fun _ _=>rfl) hok
theorem RdD.Xb {ok ok':Nat→Prop} {w:World} {β:Nat→Value} {u:Nat→Prop} {val:Value} {id len sz:Nat} {rs:List (List D)} (hv:RdV β u ok w val (.rsl id len)) (ho:Own β u ok w (id,0) (.rows sz rs none))
  (hb:∀ b,Blk β w (id,0) (.rows sz rs none) b→ok' b) (hok:∀ b,ok b→ok' b):RdD ok' w val (.list (rs.map D.list)):=by
 cases hv with
 | rsl _ _ cap a q1 q2 _=>
   obtain ⟨_,⟨a0,cap0,e1,e2,e3,e4,e5⟩,_⟩:=ho;have e1:β id = .slice a0 rs.length cap0:=e1;rw [q2] at e1;simp only [Value.slice.injEq] at e1;obtain ⟨rfl,rfl,rfl⟩:=e1;rcases Nat.eq_zero_or_pos cap with h0 | h0
   ·subst h0;have:rs=[]:=List.length_eq_zero_iff.1 (by omega);subst this;exact .lC _
   ·obtain ⟨b,o,cur,T,rfl,g1,g2,g3,_⟩:=e5 h0
    have hbl:ok' b:=hb b (.inl (by show aB (β id)=_;rw [q2];cases cap with
     | zero=>omega
     | succ n=>rfl))
    have key:∀ (i:Nat) x,(rs.map D.list)[i]?=some x→∃ xs v,x = .list xs∧rs[i]?=some xs∧w.cell? ⟨b,o+i,none⟩=some v∧v.oneCell'=true∧RdD ok' w v x:=fun i x hx=>by
     simp only [List.getElem?_map,Option.map_eq_some_iff] at hx;obtain ⟨xs,hx,rfl⟩:=hx;obtain ⟨v,p1,p2,p3,_⟩:=g3 i xs hx;obtain ⟨p4,p5⟩:=p3 rfl;have hc:w.cell? ⟨b,o+i,none⟩=some v:=(by rw [cell_of_row w b _ cur T (0,0) g1];exact p1);refine ⟨xs,v,rfl,hx,hc,p2,p4.rd (fun c hc'=>hb c (.inr ⟨⟨b,o,none⟩,cap-1,rs.length,i,v,?_,(List.getElem?_eq_some_iff.1 hx).1,rfl,hc,hc'⟩)) hok⟩;show β id=_;rw [q2,Nat.sub_add_cancel h0]
    have:=RdD.lst (ok:=ok') (w:=w) ⟨b,o,none⟩ cap 1 (rs.map D.list) (fun i _=>(w.cell? ⟨b,o+i,none⟩).getD undef) hbl rfl (by simpa using e2) e3 (by decide) (fun i x hx=>by
     obtain ⟨xs,v,rfl,_⟩:=key i x hx;rfl) (fun i x j c hx hc=>by
     obtain ⟨xs,v,rfl,_,hv,h1,_⟩:=key i x hx;cases j with
     | zero=>
       obtain rfl:D.list xs=c:=by simpa [D.cells] using hc
       rw [show o+(i*1+0)=o+i by omega,hv];exact ⟨rfl,h1,rfl⟩
     | succ j=>simp [D.cells] at hc) (fun i x j c hx hc=>by
     obtain ⟨xs,v,rfl,_,hv,_,h2⟩:=key i x hx;cases j with
     | zero=>
       obtain rfl:D.list xs=c:=by simpa [D.cells] using hc
       rw [hv];exact h2
     | succ j=>simp [D.cells] at hc)
    rwa [List.length_map] at this
theorem IV {v:V} {h:Key→Option Res} {K:D→List Key→Prop} (hK:Yg v h K):∃ d rd,K d rd∧Reads h v d rd:=by
 unfold Yg at hK;split at hK
 ·exact ⟨_,_,hK,fun β u ok ok' w val hv hr hok=>hv.fB.mono (fun _ _=>rfl) hok⟩
 ·exact ⟨_,_,hK,fun β u ok ok' w val hv hr hok=>by cases hv;exact .lC _⟩
 ·exact ⟨_,_,hK,fun β u ok ok' w val hv hr hok=>by cases hv;exact .lC _⟩
 ·rename_i id sz off len;obtain ⟨sz2,xs,hh,hK⟩:=bW hK;obtain ⟨hs,ys,rfl,hl,hK5⟩:=ah hK;have e:sz=sz2:=Nat.eq_of_beq_eq_true hs;subst e;refine ⟨_,_,hK5,fun β u ok ok' w val hv hr hok=>?_⟩;obtain ⟨⟨_,ho⟩,hb⟩:=hr (id,0) (by simp) _ hh;exact RdD.Du hv ho hl (fun b hb'=>hb b (.inl hb')) hok
 ·rename_i id off;obtain ⟨ds,rd,hK,hc⟩:=qJ hK;cases ds with
  | nil=>exact hK.elim
  | cons d ds=>
    refine ⟨_,_,hK,fun β u ok ok' w val hv hr hok=>?_⟩;cases hv with
    | ptr _ _ b h1 h2=>
      have key:∀ (j:Nat) c,(d::ds)[j]?=some c→∃ v,w.cell? ⟨b,0+j,none⟩=some v∧v.oneCell'=true∧RdD ok' w v c∧ok' b:=fun j c hj=>by
       have hh:=hc j c hj;rw [Nat.zero_add] at hh;obtain ⟨hin,hh⟩:=hh;rcases hh with hh | ⟨id2,sz,off2,len,xs,hh,h3,h4,rfl,hin2⟩
       all_goals
        obtain ⟨ho,hb⟩:=hr (id,j) hin _ hh;obtain ⟨b',cur,T,v,g1,g2,g3,g4,g5⟩:=ho;have g1:β id = .pointer (some ⟨b',0,none⟩):=g1;rw [h2] at g1;cases g1;refine ⟨v,?_,g4,?_,hb b (.inl (by show aB (β id)=_;rw [h2];rfl))⟩
        ·rw [cell_of_row w b _ cur T (0,0) g2,Nat.zero_add];exact g3
       ·exact g5.fB.mono (fun _ _=>rfl) hok
       ·obtain ⟨⟨_,ho2⟩,hb2⟩:=hr (id2,0) hin2 _ h3;exact RdD.Du g5 ho2 h4 (fun b hb'=>hb2 b (.inl hb')) hok
      obtain ⟨_,_,_,_,hb⟩:=key 0 d rfl
      have:=RdD.ref (ok:=ok') (w:=w) b 0 off (d::ds) (fun j=>(w.cell? ⟨b,0+j,none⟩).getD undef) hb (fun j c hj=>by
       obtain ⟨v,k1,k2,k3,_⟩:=key j c hj;rw [k1];exact ⟨rfl,k2,by rw [← k3.oneCell];exact k2⟩) (fun j c hj=>by
       obtain ⟨v,k1,k2,k3,_⟩:=key j c hj
       rw [k1];exact k3)
      rwa [Nat.zero_add] at this
 ·rename_i id len;obtain ⟨sz,rs,out,hh,hK⟩:=jr hK;split at hK
  ·refine ⟨_,_,hK,fun β u ok ok' w val hv hr hok=>?_⟩;obtain ⟨ho,hb⟩:=hr (id,0) (by simp) _ hh;exact RdD.Xb hv ho hb hok
  ·exact hK.elim
 ·exact hK.elim
theorem Fv:∀ {vs:List V} {h:Key→Option Res} {K:List D→List Key→Prop},Rq vs h K→∃ ds rd,K ds rd∧ds.length=vs.length ∧
  ∀ (β:Nat→Value) (u ok ok':Nat→Prop) (w:World),(∀ k∈rd,∀ r,h k=some r→Own β u ok w k r∧∀ b,Blk β w k r b→ok' b)→(∀ b,ok b→ok' b) →
    ∀ (j:Nat) val v d,vs[j]?=some v→ds[j]?=some d→RdV β u ok w val v→RdD ok' w val d
 | [],h,K,hK=>⟨[],[],hK,rfl,fun β u ok ok' w _ _ j val v d hv=>by simp at hv⟩
 | v::vs,h,K,hK=>by
   unfold Rq at hK;obtain ⟨d,rd,h1,h2⟩:=IV hK;obtain ⟨ds,rd',h3,h4,h5⟩:=Fv h1;refine ⟨d::ds,rd++rd',h3,by simp [h4],fun β u ok ok' w hr hok j val v' d' hv hd hval=>?_⟩;cases j with
   | zero=>simp at hv hd;subst hv;subst hd;exact h2 β u ok ok' w val hval (fun k hk=>hr k (by simp [hk])) hok
   | succ j=>exact h5 β u ok ok' w (fun k hk=>hr k (by simp [hk])) hok j val v' d' (by simpa using hv) (by simpa using hd) hval
theorem Fq {v:V} {h:Key→Option Res} {K:D→List Key→Prop} (hK:Ro v h K):∃ d rd,K d rd∧Reads h v d rd:=by
 unfold Ro at hK;split at hK
 ·rename_i f cs;obtain ⟨ds,rd,h1,h2,h3⟩:=Fv hK;refine ⟨_,_,h1,fun β u ok ok' w val hv hr hok=>?_⟩;cases hv with
  | func _ fs vs _ _ g1 g2 g3 g4=>
    obtain rfl:fs=#[]:=Array.eq_empty_of_size_eq_zero g1;refine .fn _ _ _ (by rw [g2,h2]) (fun i v c hv hc=>?_);have hi:i<cs.length:=(by rw [← h2];exact (List.getElem?_eq_some_iff.1 hc).1);have hcs:cs[i]?=some cs[i]:=(by simp);exact h3 β u ok ok' w hr hok i v _ c hcs hc (g4 i v _ hv hcs)
 ·exact IV hK
theorem Fp:∀ {vs:List V} {h:Key→Option Res} {K:List D→List Key→Prop},Rn vs h K→∃ ds rd,K ds rd∧ds.length=vs.length ∧
  ∀ (β:Nat→Value) (u ok ok':Nat→Prop) (w:World),(∀ k∈rd,∀ r,h k=some r→Own β u ok w k r∧∀ b,Blk β w k r b→ok' b)→(∀ b,ok b→ok' b) →
    ∀ (j:Nat) val v d,vs[j]?=some v→ds[j]?=some d→RdV β u ok w val v→RdD ok' w val d
 | [],h,K,hK=>⟨[],[],hK,rfl,fun β u ok ok' w _ _ j val v d hv=>by simp at hv⟩
 | v::vs,h,K,hK=>by
   unfold Rn at hK;obtain ⟨d,rd,h1,h2⟩:=Fq hK;obtain ⟨ds,rd',h3,h4,h5⟩:=Fp h1;refine ⟨d::ds,rd++rd',h3,by simp [h4],fun β u ok ok' w hr hok j val v' d' hv hd hval=>?_⟩;cases j with
   | zero=>simp at hv hd;subst hv;subst hd;exact h2 β u ok ok' w val hval (fun k hk=>hr k (by simp [hk])) hok
   | succ j=>exact h5 β u ok ok' w (fun k hk=>hr k (by simp [hk])) hok j val v' d' (by simpa using hv) (by simpa using hd) hval
theorem zW {v:V} {h:Key→Option Res} {K:D→List Key→Prop} (hK:V9 v h K):∃ d rd,K d rd∧Reads h v d rd:=by
 unfold V9 at hK;split at hK
 ·rename_i cs;obtain ⟨ds,rd,h1,h2,h3⟩:=Fp hK;refine ⟨_,_,h1,fun β u ok ok' w val hv hr hok=>?_⟩;cases hv with
  | agg vs _ q1 q2 q3=>
    have key:∀ (i:Nat) v c,vs[i]?=some v→ds[i]?=some c→RdD ok' w v c:=fun i v c hv hc=>by
     have hi:i<cs.length:=(by rw [← h2];exact (List.getElem?_eq_some_iff.1 hc).1);have hcs:cs[i]?=some cs[i]:=(by simp);exact h3 β u ok ok' w hr hok i v _ c hcs hc (q2 i v _ hv hcs)
    exact .agg _ _ (by rw [q1,h2]) key (fun i v c hv hc=>⟨q3 i v hv,by rw [← (key i v c hv hc).oneCell];exact q3 i v hv⟩)
 ·exact Fq hK
theorem IU:∀ {vs:List V} {h:Key→Option Res} {K:List D→List Key→Prop},args vs h K→∃ ds rd,K ds rd∧ds.length=vs.length ∧
  ∀ (β:Nat→Value) (u ok ok':Nat→Prop) (w:World),(∀ k∈rd,∀ r,h k=some r→Own β u ok w k r∧∀ b,Blk β w k r b→ok' b)→(∀ b,ok b→ok' b) →
    ∀ (j:Nat) val v d,vs[j]?=some v→ds[j]?=some d→RdV β u ok w val v→RdD ok' w val d
 | [],h,K,hK=>⟨[],[],hK,rfl,fun β u ok ok' w _ _ j val v d hv=>by simp at hv⟩
 | v::vs,h,K,hK=>by
   unfold args at hK;obtain ⟨d,rd,h1,h2⟩:=zW hK;obtain ⟨ds,rd',h3,h4,h5⟩:=IU h1;refine ⟨d::ds,rd++rd',h3,by simp [h4],fun β u ok ok' w hr hok j val v' d' hv hd hval=>?_⟩;cases j with
   | zero=>simp at hv hd;subst hv;subst hd;exact h2 β u ok ok' w val hval (fun k hk=>hr k (by simp [hk])) hok
   | succ j=>exact h5 β u ok ok' w (fun k hk=>hr k (by simp [hk])) hok j val v' d' (by simpa using hv) (by simpa using hd) hval
def D.Et:D→Bool
 | .bool _ | .int _ _ | .str _ | .vI=>true
 | _=>false
def D.flat:D→Bool
 | .agg cs=>cs.all D.Et
 | x=>x.Et
theorem RdD.Et {ok ok':Nat→Prop} {w:World} {v:Value} {d:D} (hf:d.Et=true) (h:RdD ok w v d):RdD ok' w v d:=by
 cases h<;>simp [D.Et] at hf
 ·exact .bool _
 ·exact .int _ _
 ·exact .str _ (by assumption)
 ·exact .vI
theorem RdD.flat {ok ok':Nat→Prop} {w:World} {v:Value} {d:D} (hf:d.flat=true) (h:RdD ok w v d):RdD ok' w v d:=by
 cases d with
 | agg cs=>cases h with
   | agg vs _ q1 q2 q3=>exact .agg vs cs q1 (fun i v c hv hc=>(q2 i v c hv hc).Et (List.all_eq_true.1 hf c (List.mem_of_getElem? hc))) q3
 | _=>exact RdD.Et hf h
def ZO (rs:List D) (K:V→Prop):Prop:=
 match rs with
 | [r]=>K (.d r)
 | rs=>mapD rs fun vs=>K (.tuple vs)
theorem RX {rs:List D} {K:V→Prop} (h:ZO rs K):∃ x,K x∧∀ (β:Nat→Value) (u ok:Nat→Prop) (w:World) v,NS ok w v rs→RdV β u ok w v x:=by
 have gen:∀ rs:List D,mapD rs (fun vs=>K (.tuple vs))→∃ x,K x∧∀ (β:Nat→Value) (u ok:Nat→Prop) (w:World) v,
   (∃ vs:Array Value,v = .tuple vs∧vs.size=rs.length∧∀ (i:Nat) u r,vs[i]?=some u→rs[i]?=some r→RdD ok w u r)→RdV β u ok w v x:=fun rs h=>
  ⟨_,uH h,fun β u ok w v ⟨vs,hv,h1,h2⟩=>by
   subst hv;refine .tuple vs _ (by simpa using h1) (fun i v c hv hc=>?_);simp only [List.getElem?_map,Option.map_eq_some_iff] at hc;obtain ⟨d,hd,rfl⟩:=hc
   exact .d _ _ (h2 i v d hv hd)⟩
 match rs,h with
 | [],h=>exact gen [] h
 | [r],h=>exact ⟨_,h,fun β u ok w v hv => .d _ _ hv⟩
 | r::r2::rest,h=>exact gen (r::r2::rest) h
def QK:List D→Bool
 | []=>true
 | d::ds=>d.flat&&QK ds
theorem NS.flat {ok ok':Nat→Prop} {w:World} {v:Value} {rs:List D} (hf:QK rs=true) (h:NS ok w v rs):NS ok' w v rs:=by
 have hall:∀ r∈rs,r.flat=true:=by
  clear h
  induction rs with
  | nil=>simp
  | cons r rs ih=>
    simp only [QK,Bool.and_eq_true] at hf
    simpa [hf.1] using ih hf.2
 unfold NS at h ⊢;split at h
 ·exact RdD.flat (hall _ (by simp)) h
 ·obtain ⟨vs,h0,h1,h2⟩:=h;exact ⟨vs,h0,h1,fun i u r hu hr=>RdD.flat (hall r (List.mem_of_getElem? hr)) (h2 i u r hu hr)⟩
section
variable {P:Program} {C:Ctx} {β:Nat→Value} {ok:Nat→Prop} {s:S} {a:Act} {w:World}
theorem RelB.called (h:RelB C β ok s a w) {dst:Option Tmp} (hd:∀ d,dst=some d→d<C.nt) {w':World} (hf:Frame (fun _ _=>False) w w') {v:Value} {x:V}
  (hv:RdV β s.used (fun b=>ok b∨(w.heap.size≤b∧b<w'.heap.size)) w' v x):RelB C β (fun b=>ok b∨(w.heap.size≤b∧b<w'.heap.size)) (s.apply dst x [] []) (a.put dst v) w':=
 h.step hd (fun _ _=>rfl) (fun _ h => .inl h) (fun b hb=>hf.lX b (h.okb b hb)) (hv.mono (fun _ _=>rfl) (fun i hi => .inl hi) (fun _ _=>rfl) (fun _ h=>h))
  (fun k r hr _ b hb=>by
   have hs:=h.sep k r b hr hb
   exact ⟨⟨fun hc=>hc.elim hs.1 (by omega),Nat.lt_of_lt_of_le hs.2.1 hf.size⟩,.inl (hf.lX b hs.2.1)⟩)
  (fun k r hm=>by cases hm) (fun k k' r r' b hm=>by cases hm)
  (fun b hb=>hb.elim (fun h'=>Nat.lt_of_lt_of_le (h.okb b h') hf.size) (fun h'=>h'.2))
  (fun b hb=>hb.elim .inl (fun h' => .inr (.inl (Nat.le_trans h.frame.size h'.1))))
  (h.frame.Rx hf)
end
def BP (P:Program) (f:FuncId) (vals:List V) (h:Key→Option Res) (K:KK):Prop:=
 args vals h fun ds rd=>∃ rs,Pure P f ds rs∧(rd=[]∨QK rs=true)∧ZO rs fun x=>K x [] rd []
def Po (P:Program) (vals:List V) (h:Key→Option Res) (K:KK):Prop:=
 match vals with
 | .func (.func f) first captured::vs=>BP P f (first++vs++captured) h K
 | .d (.fn f cs)::vs=>BP P f ([]++vs++cs.map V.d) h K
 | _=>False
theorem wu {P:Program} {o:Oper} {fv:Operand} {as:Array Operand} {tys:Array TypeId} (ho:o.op = .call { callee := .value fv,args:=as,argTypes:=tys }) {f:FuncId} {v0:V} {first vs captured:List V}
  (hf0:∀ (β:Nat→Value) (u ok:Nat→Prop) (w:World) v,RdV β u ok w v v0→RdV β u ok w v (.func (.func f) first captured)) {h:Key→Option Res} {K:KK} (hK:BP P f (first++vs++captured) h K) :
  ∃ x δ rd nw,K x δ rd nw∧aC P o (v0::vs) h x δ rd nw:=by
 unfold BP at hK;obtain ⟨ds,rd,⟨rs,hp,hfl,hK⟩,h1,h2⟩:=IU hK;obtain ⟨x,hK,h3⟩:=RX hK;refine ⟨_,_,_,_,hK,fun C s a w hrel g1 g2 g3 g4 g5 K' Q hK'=>?_⟩;obtain ⟨β,ok,hr⟩:=hrel;simp only [ho,Op.operands,Call.operands] at g1 g5;have g1':s.ev fv=v0∧as.toList.map s.ev=vs:=by simpa using g1
 have hf:=hr.eval fv (g5 fv (by simp));rw [g1'.1] at hf
 replace hf:=hf0 _ _ _ _ _ hf
 generalize hvf:a.eval fv=vf at hf;cases hf with
 | func _ fs cs _ _ q1 q2 q3 q4=>
   obtain ⟨fn,e1,e2,e3⟩:=hp.there
   let ok':Nat→Prop:=fun b=>ok b∨∃ k∈rd,∃ r,h k=some r∧Blk β w k r b
   have hown:∀ k∈rd,∀ r,h k=some r→Own β s.used ok w k r∧∀ b,Blk β w k r b→ok' b:=fun k hk r hkr=>
    ⟨(hr.heap k r (by rw [g2 k hk];exact hkr)).2,fun b hb => .inr ⟨k,hk,r,hkr,hb⟩⟩
   have hokb:∀ b,ok' b→b<w.heap.size:=fun b hb=>by
    rcases hb with hb | ⟨k,hk,r,hkr,hb⟩
    ·exact hr.okb b hb
    ·exact (hr.sep k r b (by rw [g2 k hk];exact hkr) hb).2.1
   have hargs:∀ (i:Nat) v d,((fs++as.map a.eval)++cs)[i]?=some v→ds[i]?=some d→RdD ok' w v d:=fun i v d hv hd=>by
    have hi:i<(first++vs++captured).length:=(by rw [← h1];exact (List.getElem?_eq_some_iff.1 hd).1);have hvi:(first++vs++captured)[i]?=some (first++vs++captured)[i]:=(by simp only [List.getElem?_eq_getElem hi]);refine h2 β s.used ok ok' w hown (fun b hb => .inl hb) i v _ d hvi hd ?_;generalize (first++vs++captured)[i]=y at hvi;rw [← Array.getElem?_toList,Array.toList_append,Array.toList_append,Array.toList_map] at hv;rcases Nat.lt_or_ge i first.length with l1 | l1
    ·rw [List.append_assoc,List.getElem?_append_left l1] at hvi;rw [List.append_assoc,List.getElem?_append_left (by simpa [q1] using l1)] at hv;exact q3 i v y (by simpa using hv) hvi
    ·rw [List.append_assoc,List.getElem?_append_right l1] at hvi;rw [List.append_assoc,List.getElem?_append_right (by simpa [q1] using l1)] at hv;have el:fs.toList.length=first.length:=by simpa using q1
     rw [el] at hv;have ev:vs.length=as.toList.length:=(by rw [← g1'.2];simp);rcases Nat.lt_or_ge (i-first.length) vs.length with l2 | l2
     ·rw [List.getElem?_append_left l2] at hvi;rw [List.getElem?_append_left (by simpa [ev] using l2)] at hv;rw [← g1'.2] at hvi;simp only [List.getElem?_map,Option.map_eq_some_iff] at hv hvi;obtain ⟨z,hz,rfl⟩:=hv;obtain ⟨z',hz',rfl⟩:=hvi;rw [hz] at hz';cases hz';exact hr.eval z (g5 z (by have:=List.mem_of_getElem? hz;simp;exact .inr (by simpa using this)))
     ·rw [List.getElem?_append_right l2] at hvi;rw [List.getElem?_append_right (by simpa [ev] using l2)] at hv;rw [List.length_map,← ev] at hv;exact q4 _ v y (by simpa using hv) hvi
   have hc:=hp.calls ok' w ((fs++as.map a.eval)++cs) (hr.glob.mono (fun _ _=>rfl) fun _ h => .inl h) hokb (by rw [h1,← g1'.2];simp [q1,q2]) hargs;unfold Oper.wp;have hrun:(execOp a.eval o).run P w = .ok (.enter f ((fs++as.map a.eval)++cs)) w:=by
    have e3':fn.body≠none:=(by intro e;rw [e] at e3;cases e3);have e2':¬ fn.name = "runtime.NumGoroutine" := by simpa using e2
    simp [execOp,ho,resolve,hvf,Deferred.ofValue,invoke,callFunc,e1,e2',e3']
   rw [hrun];refine hc.mono fun e w' ⟨v,he,hfr,hres⟩=>?_
   subst he;have hres':NS (fun b=>ok b∨(w.heap.size≤b∧b<w'.heap.size)) w' v rs:=by
    rcases hfl with h0 | h0
    ·subst h0;have heq:ok'=ok:=(by funext b;simp [ok']);rw [heq] at hres;exact hres
    ·exact hres.flat h0
   exact hK' _ _ ⟨β,_,hr.called g4 hfr (h3 β s.used _ w' v hres')⟩
theorem JR {P:Program} {o:Oper} {fv:Operand} {as:Array Operand} {tys:Array TypeId} (ho:o.op = .call { callee := .value fv,args:=as,argTypes:=tys }) {vals:List V} {h:Key→Option Res} {K:KK} (hK:Po P vals h K) :
  ∃ x δ rd nw,K x δ rd nw∧aC P o vals h x δ rd nw:=by
 unfold Po at hK;split at hK
 ·exact wu ho (fun _ _ _ _ _ h=>h) hK
 ·rename_i f cs vs;refine wu ho (first:=[]) (fun β u ok w v hv=>?_) hK;cases hv with
  | d _ _ hd=>
    cases hd with
    | fn _ us _ h1 h2=>
      refine .func _ _ _ _ _ rfl (by simpa using h1) (fun i v x hv=>by simp at hv) (fun i v x hv hx=>?_);simp only [List.getElem?_map,Option.map_eq_some_iff] at hx;obtain ⟨d,hd,rfl⟩:=hx;exact .d _ _ (h2 i v d hv hd)
 ·exact hK.elim
end Go.Abs
