/- Rows that grow by one element at a time, whose elements are data: the plain law of append. -/
import Derived.Test.YtpmapognbdiahaaGreatDoorAbsAAnd
import Derived.WalkKit
import Derived.Deep.AppendLies
import Derived.Test.YtpmapognbdiahaaGreatDoorTmMAnd
import Derived.Deep.RegionLaw
import Derived.Deep.RegionHeld3
import Derived.Lib.Bytealg
import Derived.Laws.Cover1
set_option linter.all false
namespace Go.Abs
open Go Go.RowKit
structure qB (P:Program) (t T:TypeId) (sz:Nat):Prop where
 und:P.underlying t=some (.slice T)
 pos:0<sz
 info:∃ i z,P.info? T=some i∧i.zero=some z∧i.size=sz∧i.bytes≤64∧z.cells.size=sz
def bV (B:Nat) (T:TypeId) (sz:Nat) (w:World) (v:Value) (ds:List D):Prop:=
 ∃ vals,w.ownsRow B T sz v ds.length vals∧∀ (i:Nat) x,ds[i]?=some x→(D.cells x).length=sz∧∀ (j:Nat) c,(D.cells x)[j]?=some c →
   ∃ u,vals[i*sz+j]?=some u∧RdD (fun b=>B≤b∧b<w.heap.size∧v.ownBlock≠some b) w u c∧u.oneCell'=true∧D.one c=true
theorem bV.nil {B T sz w}:bV B T sz w (.slice none 0 0) []:=⟨[],World.ownsRow_nil w B T sz,fun i x h=>by cases h⟩
theorem bV.shape {B T sz w v ds} (h:bV B T sz w v ds):∃ a cap,v = .slice a ds.length cap:=by
 obtain ⟨vals,h,_⟩:=h;rcases h.2 with ⟨rfl,h0⟩ | ⟨g,cap,cur,rfl,_⟩
 ·exact ⟨none,0,by rw [h0]⟩
 ·exact ⟨_,_,rfl⟩
theorem bV.lt {B T sz w v ds} (h:bV B T sz w v ds):∀ k,v.ownBlock=some k→B≤k∧k<w.heap.size:=h.choose_spec.1.lt
theorem bV.far {B T sz w w' v ds} (h:bV B T sz w v ds) (hg:w.grownBy w' v.ownBlock) {k:Nat} (hk:k<B) (hs:k<w.heap.size):w'.heap[k]?=w.heap[k]?:=hg.block k hs (fun e=>by have:=h.lt k e.symm;omega)
theorem bV.keep {B T sz w w' v ds} (h:bV B T sz w v ds) (hs:w.heap.size≤w'.heap.size) (hk:∀ b,B≤b→b<w.heap.size→w'.heap[b]?=w.heap[b]?):bV B T sz w' v ds:=by
 obtain ⟨vals,h,hd⟩:=h;refine ⟨vals,⟨h.1,?_⟩,fun i x hx=>⟨(hd i x hx).1,fun j c hc=>?_⟩⟩
 ·rcases h.2 with h0 | ⟨g,cap,cur,rfl,h1,h2,h3⟩
  ·exact .inl h0
  ·exact .inr ⟨g,cap,cur,rfl,h1,(hk g h1 (Array.getElem?_eq_some_iff.1 h2).1).trans h2,h3⟩
 ·obtain ⟨u,h1,h2,h3⟩:=(hd i x hx).2 j c hc;exact ⟨u,h1,h2.mono (fun b hb=>hk b hb.1 hb.2.1) (fun b hb=>⟨hb.1,Nat.lt_of_lt_of_le hb.2.1 hs,hb.2.2⟩),h3⟩
theorem bV.rd {B T sz w v ds} (h:bV B T sz w v ds) (hsz:0<sz):RdD (fun b=>B≤b∧b<w.heap.size) w v (.list ds):=by
 obtain ⟨vals,h,hd⟩:=h;rcases h.2 with ⟨rfl,h0⟩ | ⟨g,cap,cur,rfl,h1,h2,h3,h4,h5,h6⟩
 ·obtain rfl:=List.length_eq_zero_iff.1 h0;exact .mO none
 ·refine .lst ⟨g,0,none⟩ cap sz ds (fun i j=>(vals[i*sz+j]?).getD .nilIface) ⟨h1,(Array.getElem?_eq_some_iff.1 h2).1⟩ rfl h3 h4 hsz (fun i x hx=>(hd i x hx).1) (fun i x j c hx hc=>?_) fun i x j c hx hc=>?_
  ·obtain ⟨u,e1,e2,e3⟩:=(hd i x hx).2 j c hc;have e4:=h.cells (g:=g) rfl _ _ e1;have ha:(⟨g,0,none⟩:Addr).add (i*sz+j)=⟨g,0+(i*sz+j),none⟩:=(by unfold Addr.add;split<;>simp_all);rw [ha] at e4;simp only [e1,Option.getD_some];exact ⟨e4,e3⟩
  ·obtain ⟨u,e1,e2,e3⟩:=(hd i x hx).2 j c hc;simp only [e1,Option.getD_some];exact e2.mono (fun _ _=>rfl) (fun b hb=>⟨hb.1,hb.2.1⟩)
theorem bV.ready {B T sz w v ds} (h:bV B T sz w v ds) (hB:B≤w.heap.size) {w6:World} (hs:w.heap.size≤w6.heap.size) (hk:∀ b,B≤b→b<w.heap.size→w6.heap[b]?=w.heap[b]?)
  (vs:Array Value) (cs:List D) (hd:RdD (fun b=>w.heap.size≤b∧b<w6.heap.size) w6 (.agg vs) (.agg cs)) :
  bV B T sz (w6.alloc (.cells vs T)) v ds∧(∀ j u,vs.toList[j]?=some u→(w6.alloc (.cells vs T)).cell? ((⟨w6.heap.size,0,none⟩:Addr).add j)=some u) ∧
  ∀ (j:Nat) u k,vs.toList[j]?=some u→cs[j]?=some k→RdD (fun b=>B≤b∧b<(w6.alloc (.cells vs T)).heap.size∧v.ownBlock≠some b) (w6.alloc (.cells vs T)) u k∧u.oneCell'=true∧D.one k=true:=by
 have hl:=h.lt;refine ⟨h.keep (by simp;omega) fun b h1 h2=>?_,fun j u hj=>?_,fun j u k hu hc=>?_⟩
 ·exact (World.grownBy_alloc w6 (.cells vs T) none).block b (by omega) (by simp) |>.trans (hk b h1 h2)
 ·have hadd:(⟨w6.heap.size,0,none⟩:Addr).add j=⟨w6.heap.size,j,none⟩:=by unfold Addr.add;split<;>simp_all
  rw [hadd,cell_of_row _ w6.heap.size j vs T (0,0) (heap_alloc_new w6 _)]
  simpa using hj
 ·cases hd with
  | agg _ _ hsz h1 h2=>
    have hu':vs[j]?=some u:=(by simpa using hu);refine ⟨(h1 j u k hu' hc).mono (fun b hb=>(World.grownBy_alloc w6 (.cells vs T) none).block b hb.2 (by simp)) (fun b hb=>⟨by omega,by simp;omega,fun e=>?_⟩),h2 j u k hu' hc⟩;have:=(hl b e).2;omega
theorem bV.aed {B T sz w v ds} (h:bV B T sz w v ds) (hB:B≤w.heap.size) {w6:World} (hs:w.heap.size≤w6.heap.size) (hk:∀ b,B≤b→b<w.heap.size→w6.heap[b]?=w.heap[b]?)
  (vs:Array Value) (cs:List D) (hd:RdD (fun b=>w.heap.size≤b∧b<w6.heap.size) w6 (.agg vs) (.agg cs)) (W:World) (hW:W.heap=(w6.alloc (.cells vs T)).heap) :
  bV B T sz W v ds∧(∀ j u,vs.toList[j]?=some u→W.cell? ((⟨w6.heap.size,0,none⟩:Addr).add j)=some u) ∧
  ∀ (j:Nat) u k,vs.toList[j]?=some u→cs[j]?=some k→RdD (fun b=>B≤b∧b<W.heap.size∧v.ownBlock≠some b) W u k∧u.oneCell'=true∧D.one k=true:=by
 obtain ⟨r1,r2,r3⟩:=h.ready hB hs hk vs cs hd;refine ⟨r1.keep (by rw [hW];exact Nat.le_refl _) (fun b _ _=>by rw [hW]),fun j u hj=>(World.cell?_of_block (by rw [hW])).trans (r2 j u hj),fun j u k hu hc=>?_⟩;obtain ⟨e1,e2⟩:=r3 j u k hu hc;exact ⟨e1.mono (fun b _=>by rw [hW]) (fun b hb=>by rw [hW];exact hb),e2⟩
theorem bV.below {B T sz} {w w7:World} {v ds o} (h:bV B T sz (w.alloc o) v ds) (hg:(w.alloc o).grownBy w7 v.ownBlock) (hB:B≤w.heap.size):Below B w w7:=
 ⟨hg.os,hg.tape,hg.output,by have:=hg.size;simp at this;omega,fun k hk=>(h.far hg hk (by simp;omega)).trans (heap_alloc_old w _ (by omega))⟩
theorem Lm {P:Program} {o:Oper} {a:Act} {K:Act→World→Prop} {Q:Exit→Act→World→Prop} {w:World} (s x:Operand) (t:TypeId)
  (ho:o.op = .call { callee := .builtin .append,args:=#[s,x],argTypes:=#[t,t] }) {T:TypeId} {sz:Nat} (hI:qB P t T sz) {B:Nat} {v:Value} {ds:List D} (hs:a.eval s=v) (hR:bV B T sz w v ds)
  (ad:Addr) (c:Nat) (hx:a.eval x = .slice (some ad) 1 c) (d:D) (news:List Value) (hl:news.length=sz) (hnews:∀ j u,news[j]?=some u→w.cell? (ad.add j)=some u)
  (hdl:(D.cells d).length=sz) (hd:∀ (j:Nat) u k,news[j]?=some u→(D.cells d)[j]?=some k→RdD (fun b=>B≤b∧b<w.heap.size∧v.ownBlock≠some b) w u k∧u.oneCell'=true∧D.one k=true)
  (hn:ds.length≤1000000000) (hB:B≤w.heap.size)
  (h:∀ g cap w',bV B T sz w' (.slice (some ⟨g,0,none⟩) (ds.length+1) cap) (ds++[d])→w.grownBy w' v.ownBlock→K (a.put o.dst (.slice (some ⟨g,0,none⟩) (ds.length+1) cap)) w'):o.wp P a w K Q:=by
 obtain ⟨vals,hown,hdat⟩:=hR;obtain ⟨i,z,h1,h2,h3,h4,h5⟩:=hI.info;have hones:∀ u∈news,u.oneCell'=true:=fun u hu=>by
  obtain ⟨j,hj,rfl⟩:=List.getElem_of_mem hu;exact (hd j _ (D.cells d)[j] (List.getElem?_eq_getElem hj) (List.getElem?_eq_getElem (by omega))).2.1
 have hb:(ds.length+1)*i.bytes≤140737488355328:=by
  have:=Nat.mul_le_mul (show ds.length+1≤1000000001 by omega) h4;omega
 refine wp_append_lies w s x t ho B T i z sz i.bytes hI.und h1 h2 h3 rfl h5 hI.pos v ds.length vals hs hown ad 1 c news hx (by omega) hnews hones (by decide) (by simp only [maxLen];omega) hb hB _ rfl fun g cap w' e1 e2 e3 e4=>h g cap w' ?_ e2
 have hvl:=hown.1;have hmono:∀ {u:Value} {k:D},RdD (fun b=>B≤b∧b<w.heap.size∧v.ownBlock≠some b) w u k→RdD (fun b=>B≤b∧b<w'.heap.size∧Value.ownBlock (.slice (some ⟨g,0,none⟩) (ds.length+1) cap)≠some b) w' u k:=fun hr=>by
  refine hr.mono (fun b hb=>e2.block b hb.2.1 (fun e=>hb.2.2 e.symm)) fun b hb=>⟨hb.1,Nat.lt_of_lt_of_le hb.2.1 e2.size,fun e=>?_⟩
  cases e;rcases e3 with e3 | e3
  ·exact hb.2.2 e3
  ·have:g<w.heap.size:=hb.2.1;omega
 refine ⟨vals++news,by rw [List.length_append];exact e1,fun i x hx=>?_⟩;by_cases hi:i<ds.length
 ·rw [List.getElem?_append_left hi] at hx;obtain ⟨g1,g2⟩:=hdat i x hx;refine ⟨g1,fun j c hc=>?_⟩;obtain ⟨u,f1,f2,f3⟩:=g2 j c hc;exact ⟨u,by rw [List.getElem?_append_left (List.getElem?_eq_some_iff.1 f1).1];exact f1,hmono f2,f3⟩
 ·rw [List.getElem?_append_right (by omega)] at hx;have hi0:i-ds.length=0:=by
   have:=(List.getElem?_eq_some_iff.1 hx).1;simp at this;omega
  rw [hi0] at hx;cases hx;have hie:i=ds.length:=by omega
  subst hie;refine ⟨hdl,fun j c hc=>?_⟩;have hj:j<news.length:=by rw [hl,← hdl];exact (List.getElem?_eq_some_iff.1 hc).1
  obtain ⟨f1,f2⟩:=hd j news[j] c (List.getElem?_eq_getElem hj) hc;refine ⟨news[j],?_,hmono f1,f2⟩;rw [List.getElem?_append_right (by omega),hvl,Nat.add_sub_cancel_left];exact List.getElem?_eq_getElem hj
section
variable {P:Program} {ops:Array Oper} {rest:List Oper} {o:Oper} {a:Act} {Q:Exit→Act→World→Prop} {w:World} (hgd:o.guard=none) (s x:Operand) (t:TypeId)
  (ho:o.op = .call { callee := .builtin .append,args:=#[s,x],argTypes:=#[t,t] }) {T:TypeId} {sz:Nat} (hI:qB P t T sz) {B:Nat} {v:Value} {ds:List D} (hs:a.eval s=v) (hR:bV B T sz w v ds)
  (ad:Addr) (c:Nat) (hx:a.eval x = .slice (some ad) 1 c) (d:D) (news:List Value) (hl:news.length=sz) (hnews:∀ j u,news[j]?=some u→w.cell? (ad.add j)=some u)
  (hdl:(D.cells d).length=sz) (hd:∀ (j:Nat) u k,news[j]?=some u→(D.cells d)[j]?=some k→RdD (fun b=>B≤b∧b<w.heap.size∧v.ownBlock≠some b) w u k∧u.oneCell'=true∧D.one k=true)
  (hn:ds.length≤1000000000) (hB:B≤w.heap.size)
include hgd ho hI hs hR hx hl hnews hdl hd hn hB
theorem dP (h:∀ g cap w',bV B T sz w' (.slice (some ⟨g,0,none⟩) (ds.length+1) cap) (ds++[d])→w.grownBy w' v.ownBlock→wpList P ops Q rest (a.put o.dst (.slice (some ⟨g,0,none⟩) (ds.length+1) cap)) w'):wpList P ops Q (o::rest) a w:=
 wpList_plain hgd fun _ hK=>Lm s x t ho hI hs hR ad c hx d news hl hnews hdl hd hn hB fun g cap w' h1 h2=>hK _ _ (h g cap w' h1 h2)
theorem uX {K:Act→World→Prop} {E:Prop} (h:∀ g cap w',bV B T sz w' (.slice (some ⟨g,0,none⟩) (ds.length+1) cap) (ds++[d])→w.grownBy w' v.ownBlock→K (a.put o.dst (.slice (some ⟨g,0,none⟩) (ds.length+1) cap)) w') :
  if Region.wanted o (yielded ops a.tmps)=true then Oper.wp P o a w K Q else E:=by
 have hw:Region.wanted o (yielded ops a.tmps)=true:=by simp [Region.wanted,hgd]
 rw [if_pos hw];exact Lm s x t ho hI hs hR ad c hx d news hl hnews hdl hd hn hB h
end
end Go.Abs
namespace Go.Abs
open Go Go.RowKit Go.Own
def enK (x:Tk):D := .agg [.int .i64 x.1,.str x.2.1,.int .i64 x.2.2]
def Q5 (w:World) (b o:Nat) (l:List Tk):Prop:=
 ∀ i (h:i<l.length),w.cell? ⟨b,o+i*3,none⟩=some (.int .i64 l[i].1)∧w.cell? ⟨b,o+i*3+1,none⟩=some (.string ⟨l[i].2.1.toArray⟩)∧w.cell? ⟨b,o+i*3+2,none⟩=some (.int .i64 l[i].2.2)∧l[i].2.1.length≤maxLen
theorem Q5.keep {w w':World} {b o:Nat} {l:List Tk} (h:Q5 w b o l) (hk:w'.heap[b]?=w.heap[b]?):Q5 w' b o l:=fun i hi=>by
 obtain ⟨h1,h2,h3,h4⟩:=h i hi;exact ⟨(World.cell?_of_block (a:=⟨b,o+i*3,none⟩) hk).trans h1,(World.cell?_of_block (a:=⟨b,o+i*3+1,none⟩) hk).trans h2,(World.cell?_of_block (a:=⟨b,o+i*3+2,none⟩) hk).trans h3,h4⟩
theorem uH {a b:List D} (h:D.list a=D.list b):a=b:=by cases h;rfl
theorem rdk {ok:Nat→Prop} {w:World} {v:Value} {l:List Tk} (h:RdD ok w v (.list (l.map enK))) (hl:0<l.length) :
  ∃ b o cap,v = .slice (some ⟨b,o,none⟩) l.length cap∧ok b∧l.length≤cap∧cap≤maxLen∧Q5 w b o l:=by
 generalize hd:D.list (l.map enK)=d at h;cases h with
 | mO a=>
   have:=uH hd;obtain rfl:l=[]:=by simpa using this
   cases hl
 | lst a cap sz xs us hb hs hl hm hsz hlen hcell hrd=>
   obtain rfl:=uH hd;obtain ⟨bk,o,sp⟩:=a;simp only at hs;subst hs;refine ⟨bk,o,cap,by rw [List.length_map],hb,by simpa using hl,hm,fun i hi=>?_⟩;have hx:(l.map enK)[i]?=some (enK l[i]):=(by rw [List.getElem?_map,List.getElem?_eq_getElem hi];rfl);generalize l[i]=t at hx ⊢;obtain ⟨k,s,n⟩:=t;have hc:D.cells (enK (k,s,n))=[.int .i64 k,.str s,.int .i64 n]:=rfl;have h3:sz=3:=(by rw [← hlen i _ hx,hc];rfl);subst h3;have c0:=(hcell i _ 0 (.int .i64 k) hx (by rw [hc];rfl)).1;have c1:=(hcell i _ 1 (.str s) hx (by rw [hc];rfl)).1;have c2:=(hcell i _ 2 (.int .i64 n) hx (by rw [hc];rfl)).1;have r0:=hrd i _ 0 (.int .i64 k) hx (by rw [hc];rfl);have r1:=hrd i _ 1 (.str s) hx (by rw [hc];rfl);have r2:=hrd i _ 2 (.int .i64 n) hx (by rw [hc];rfl);generalize us i 0=u0 at c0 r0;generalize us i 1=u1 at c1 r1;generalize us i 2=u2 at c2 r2;cases r0;cases r2;cases r1 with
   | str _ hlen=>exact ⟨by simpa using c0,c1,c2,hlen⟩
 | _=>cases hd
theorem aC {w:World} {b:Nat} {x y:Value} {T:TypeId} (h:w.heap[b]?=some (.cells #[x,y] T (0,0))) :
  w.cell? ⟨b,0,none⟩=some x∧w.cell? ⟨b,1,none⟩=some y∧w.frozen? ⟨b,0,none⟩=false∧w.frozen? ⟨b,1,none⟩=false:=by simp [World.cell?,World.frozen?,h]
theorem aA (w:World) (p:Addr) (v:Value) {k:Nat} (h:k≠p.block):(w.setCell p v).heap[k]?=w.heap[k]?:=by
 simp only [World.setCell,Array.getElem?_modify];rw [if_neg (fun e=>h e.symm)]
theorem bC {w:World} {b:Nat} (j:Nat) (v:Value) {cs:Array Value} {T:TypeId} {fr:Nat×Nat} (h:w.heap[b]?=some (.cells cs T fr)):(w.setCell ⟨b,j,none⟩ v).heap[b]?=some (.cells (cs.setIfInBounds j v) T fr):=by
 simp [World.setCell,Array.getElem?_modify,h]
theorem bP {P:Program} {ops:Array Oper} {rest:List Oper} {o:Oper} {a:Act} {Q:Exit→Act→World→Prop} {w:World} (T:TypeId) (f:Nat) (vs:Array Value) (c:Value) (hf:∀ w,(Instr.field T (.agg vs) f).run P w = .ok c w)
  (hgd:o.guard=none) (x:Operand) (ho:o.op = .field T x f) (hx:a.eval x = .agg vs) (h:wpList P ops Q rest (a.put o.dst c) w):wpList P ops Q (o::rest) a w:=by
 refine wpList_plain hgd fun K hK=>?_
 unfold Oper.wp execOp;simp only [ho,hx,Sem.run_bind,Sem.run_pure,hf,Result.andThen_ok];exact hK _ _ h
structure Kp (B rb:Nat) (w w':World):Prop where
 os:w'.os=w.os
 tape:w'.tape=w.tape
 output:w'.output=w.output
 size:w.heap.size≤w'.heap.size
 block:∀ k,k<B→k≠rb→w'.heap[k]?=w.heap[k]?
section
variable {B B' rb:Nat} {w w' w'':World}
theorem Kp.refl (B rb:Nat) (w:World):Kp B rb w w:=⟨rfl,rfl,rfl,Nat.le_refl _,fun _ _ _=>rfl⟩
theorem Kp.trans (h:Kp B rb w w') (h':Kp B rb w' w''):Kp B rb w w'':=⟨h'.os.trans h.os,h'.tape.trans h.tape,h'.output.trans h.output,Nat.le_trans h.size h'.size,fun k hk hr=>(h'.block k hk hr).trans (h.block k hk hr)⟩
theorem Kp.mono (h:Kp B' rb w w') (hb:B≤B'):Kp B rb w w':=⟨h.os,h.tape,h.output,h.size,fun k hk hr=>h.block k (Nat.lt_of_lt_of_le hk hb) hr⟩
theorem Kp.of (h:Below B w w'):Kp B rb w w':=⟨h.os,h.tape,h.output,h.size,fun k hk _=>h.block k hk⟩
theorem Kp.grown {v:Value} (h:w.grownBy w' v.ownBlock) (hv:∀ k,v.ownBlock=some k→B≤k) (hB:B≤w.heap.size):Kp B rb w w':=
 ⟨h.os,h.tape,h.output,h.size,fun k hk _=>h.block k (Nat.lt_of_lt_of_le hk hB) (fun e=>by have:=hv k e.symm;omega)⟩
theorem Kp.alloc (h:Kp B rb w w') (hB:B≤w'.heap.size) (o:Obj):Kp B rb w (w'.alloc o):=⟨h.os,h.tape,h.output,by simp;have:=h.size;omega,fun k hk hr=>(heap_alloc_old w' o (Nat.lt_of_lt_of_le hk hB)).trans (h.block k hk hr)⟩
theorem Kp.drew (h:Kp B rb w w'):Kp B rb w w'.drew:=⟨h.os,h.tape,h.output,h.size,h.block⟩
theorem Kp.setCell (h:Kp B rb w w') {p:Addr} (hp:p.block=rb∨B≤p.block) (v:Value):Kp B rb w (w'.setCell p v):=by
 refine ⟨h.os,h.tape,h.output,by simpa [World.setCell] using h.size,fun k hk hr=>?_⟩;have:k≠p.block:=by rcases hp with hp | hp<;>omega
 simp only [World.setCell,Array.getElem?_modify];rw [if_neg (fun e=>this e.symm)];exact h.block k hk hr
theorem Kp.below (h:Kp B rb w w') (hr:B≤rb):Below B w w':=⟨h.os,h.tape,h.output,h.size,fun k hk=>h.block k hk (by omega)⟩
theorem Kp.below' (h:Kp B rb w w') (hr:B'≤rb) (hB:B'≤B):Below B' w w':=(h.mono hB).below hr
end
end Go.Abs
namespace Go.Proofs.YtpmapognbdiahaaGreatDoor
open Go Go.Abs Go.Own
mutual
def enT:Tm→D
 | .mk n l => .agg [.str n,.list (QK l)]
def QK:List Tm→List D
 | []=>[]
 | t::ts=>enT t::QK ts
end
theorem mW:∀ l:List Tm,QK l=l.map enT
 | []=>rfl
 | t::ts=>by rw [QK,mW ts];rfl
def tD (n:Str) (l:List Tm):D := .agg [.str n,.list (l.map enT)]
theorem Va (t:Tm):enT t=tD t.name t.args:=by obtain ⟨n,l⟩:=t;rw [enT,mW];rfl
def enS (s:Sn):D := .agg [.str s.1.name,.list (s.1.args.map enT),.list (s.2.map enT)]
theorem nU {a b:List D} (h:D.list a=D.list b):a=b:=by cases h;rfl
theorem rdl {ok:Nat→Prop} {w:World} {v:Value} {l:List Tm} (h:RdD ok w v (.list (l.map enT))) :
  ∃ a cap,v = .slice a l.length cap∧(l=[]∨∃ b o,a=some ⟨b,o,none⟩∧ok b∧l.length≤cap∧cap≤maxLen ∧
    ∀ i (hi:i<l.length),∃ u0 u1,w.cell? ⟨b,o+i*2,none⟩=some u0∧w.cell? ⟨b,o+(i*2+1),none⟩=some u1∧RdD ok w (.agg #[u0,u1]) (enT l[i])):=by
 generalize hd:D.list (l.map enT)=d at h;cases h with
 | mO a=>
   have:=nU hd;obtain rfl:l=[]:=by simpa using this
   exact ⟨a,0,rfl,.inl rfl⟩
 | lst a cap sz xs us hb hs hl hm hsz hlen hcell hrd=>
   obtain rfl:=nU hd;obtain ⟨bk,o,sp⟩:=a;simp only at hs;subst hs;refine ⟨_,_,by rw [List.length_map],.inr ⟨bk,o,rfl,hb,by simpa using hl,hm,fun i hi=>?_⟩⟩;have hx:(l.map enT)[i]?=some (enT l[i]):=(by rw [List.getElem?_map,List.getElem?_eq_getElem hi];rfl);generalize l[i]=t at hx ⊢;obtain ⟨n,ts⟩:=t;have hc:D.cells (enT (.mk n ts))=[.str n,.list (QK ts)]:=rfl;have h2:sz=2:=(by rw [← hlen i _ hx,hc];rfl);subst h2;have c0:=hcell i _ 0 (.str n) hx (by rw [hc];rfl);have c1:=hcell i _ 1 (.list (QK ts)) hx (by rw [hc];rfl);refine ⟨us i 0,us i 1,by simpa using c0.1,c1.1,?_⟩;rw [enT];refine .agg _ _ rfl (fun j v c hv hc'=>?_) fun j v c hv hc'=>?_
   ·match j,hv,hc' with
    | 0,hv,hc'=>simp at hv hc';subst hv;subst hc';exact hrd i _ 0 _ hx (by rw [hc];rfl)
    | 1,hv,hc'=>simp at hv hc';subst hv;subst hc';exact hrd i _ 1 _ hx (by rw [hc];rfl)
    | j+2,hv,_=>simp at hv
   ·match j,hv,hc' with
    | 0,hv,hc'=>simp at hv hc';subst hv;subst hc';exact c0.2
    | 1,hv,hc'=>simp at hv hc';subst hv;subst hc';exact c1.2
    | j+2,hv,_=>simp at hv
 | _=>cases hd
theorem rdt {ok:Nat→Prop} {w:World} {v:Value} {n:Str} {l:List Tm} (h:RdD ok w v (enT (.mk n l))) :
  ∃ u,v = .agg #[.string ⟨n.toArray⟩,u]∧RdD ok w u (.list (l.map enT)):=by
 rw [enT,mW] at h;generalize hd:D.agg [.str n,.list (l.map enT)]=d at h;cases h with
 | agg vs cs hl h1 h2=>
   cases hd;obtain ⟨vs⟩:=vs
   match vs,hl with
   | [u0,u1],_=>
     have r0:=h1 0 u0 _ rfl rfl;have r1:=h1 1 u1 _ rfl rfl;cases r0;exact ⟨u1,rfl,r1⟩
 | _=>cases hd
theorem JH {ok:Nat→Prop} {w:World} {u0 u1:Value} {t:Tm} (h:RdD ok w (.agg #[u0,u1]) (enT t)):(∃ x,u0 = .string x)∧∃ a n c,u1 = .slice a n c:=by
 obtain ⟨n,l⟩:=t;obtain ⟨u,he,hu⟩:=rdt h;obtain ⟨a,c,hc,_⟩:=rdl hu;cases he;exact ⟨⟨_,rfl⟩,_,_,_,hc⟩
end Go.Proofs.YtpmapognbdiahaaGreatDoor
namespace Go.Proofs.YtpmapognbdiahaaGreatDoor
open Go Go.Abs Go.Own Go.RowKit
theorem hid {p:Prop} (h:p):Hid p:=h
theorem aO {w W:World} (hB:Below w.heap.size w W) {v:Value} {d:D} (h:RdD (fun b=>b<w.heap.size) w v d):RdD (fun b=>b<W.heap.size) W v d:=
 h.mono (fun q hq=>hB.block q hq) (fun q hq=>Nat.lt_of_lt_of_le hq hB.size)
theorem rd_mk {ok:Nat→Prop} {w:World} {u:Value} {n:Str} {l:List Tm} (hn:n.length≤maxLen) (h:RdD ok w u (.list (l.map enT))):RdD ok w (.agg #[.string ⟨n.toArray⟩,u]) (enT (.mk n l)):=by
 rw [enT,mW];refine .agg _ _ rfl (fun j v c hv hc=>?_) fun j v c hv hc=>?_
 ·match j,hv,hc with
  | 0,hv,hc=>simp at hv hc;subst hv;subst hc;exact .str _ hn
  | 1,hv,hc=>simp at hv hc;subst hv;subst hc;exact h
  | j+2,hv,_=>simp at hv
 ·match j,hv,hc with
  | 0,hv,hc=>simp at hv hc;subst hv;subst hc;exact ⟨rfl,rfl⟩
  | 1,hv,hc=>simp at hv hc;subst hv;subst hc;exact ⟨by obtain ⟨a,c,e,_⟩:=rdl h;rw [e];rfl,rfl⟩
  | j+2,hv,_=>simp at hv
theorem aee {ok:Nat→Prop} {w:World} {u0 u1 u2:Value} {s:Sn} (h:RdD ok w (.agg #[u0,u1]) (enT s.1)) (hp:RdD ok w u2 (.list (s.2.map enT))):RdD ok w (.agg #[u0,u1,u2]) (enS s):=by
 obtain ⟨⟨n,l⟩,ps⟩:=s;simp only at h hp;obtain ⟨u,he,hu⟩:=rdt h;have h0:u0 = .string ⟨n.toArray⟩∧u1=u:=by simpa using he
 obtain ⟨rfl,rfl⟩:=h0;rw [enT,mW] at h;cases h with
 | agg _ _ hl h1 h2=>
   refine .agg _ _ rfl (fun j v c hv hc=>?_) fun j v c hv hc=>?_
   ·match j,hv,hc with
    | 0,hv,hc=>simp at hv hc;subst hv;subst hc;exact h1 0 _ _ rfl rfl
    | 1,hv,hc=>simp at hv hc;subst hv;subst hc;exact h1 1 _ _ rfl rfl
    | 2,hv,hc=>simp at hv hc;subst hv;subst hc;exact hp
    | j+3,hv,_=>simp at hv
   ·match j,hv,hc with
    | 0,hv,hc=>simp at hv hc;subst hv;subst hc;exact h2 0 _ _ rfl rfl
    | 1,hv,hc=>simp at hv hc;subst hv;subst hc;exact h2 1 _ _ rfl rfl
    | 2,hv,hc=>simp at hv hc;subst hv;subst hc;exact ⟨by obtain ⟨a,c,e,_⟩:=rdl hp;rw [e];rfl,rfl⟩
    | j+3,hv,_=>simp at hv
theorem QL (t:Tm):enT t = .agg (D.cells (enT t)):=by rw [Va];rfl
theorem jR (t:Tm):(D.cells (enT t)).length=2:=by rw [Va];rfl
theorem yt {ok:Nat→Prop} {w:World} {vs:Array Value} {t:Tm} (h:RdD ok w (.agg vs) (enT t)):RdD ok w (.agg vs) (.agg (D.cells (enT t))):=by rw [← QL];exact h
end Go.Proofs.YtpmapognbdiahaaGreatDoor
namespace Go.Proofs
open Go Go.RowKit Go.Shelf Go.Own Go.Proofs.YtpmapognbdiahaaGreatDoor
abbrev Gives (P:Program) (f:FuncId) (vs:Array Value) (r:Value):Prop:=∀ w,Calls P f vs w fun e w'=>e = .returned r∧w'=w
theorem qc {a b:Int} {c:UInt8}:rng a b c=true↔a≤(c.toNat:Int)∧(c.toNat:Int)≤b:=by simp [rng]
theorem kD {P:Program} {t:TypeId} (h:P.underlying t=some .string) {s:Str} (hs:1≤s.length):∃ c r,s=c::r∧∀ w,(Instr.index t (.string ⟨s.toArray⟩) (.int .i64 0)).run P w = .ok (.int .u8 c.toNat) w:=by
 cases s with
 | nil=>simp at hs
 | cons c r=>exact ⟨c,r,rfl,fun w=>dA h (i:=0) (by simp) w⟩
theorem pG {s:Str} {p:UInt8→Bool} {i:Nat} (h:i<s.length) (ht:(s.take i).all p=true) (hp:p s[i]=true):(s.take (i+1)).all p=true:=by
 rw [List.take_succ_eq_append_getElem h,List.all_append,ht];simp [hp]
theorem uQ {s:Str} {p:UInt8→Bool} {i:Nat} (h:i<s.length) (hp:p s[i]=false):s.all p=false:=by
 rw [List.all_eq_false];exact ⟨_,List.getElem_mem h,by simp [hp]⟩
set_option maxHeartbeats 1000000 in
set_option maxRecDepth 100000 in
theorem Tryz.uM (c:UInt8):Gives Tryz.prog 258 #[.int .u8 c.toNat] (.bool (jA c))∧Gives Tryz.prog 257 #[.int .u8 c.toNat] (.bool (oG c))∧Gives Tryz.prog 259 #[.int .u8 c.toNat] (.bool (gX c)):=by
 refine ⟨fun w=>?_,fun w=>?_,fun w=>?_⟩
 ·have hn:jA c=true↔_:=qc;generalize jA c=b at hn ⊢;generalize (c.toNat:Int)=k at hn ⊢
  go_enter Tryz.func258,Tryz.ntmps258
  go_wp2
  all_goals go_ret
  all_goals exact ⟨congrArg (fun b=>Ending.returned (.bool b)) (by rw [Bool.eq_iff_iff,hn];simp;try omega),rfl⟩
 ·have hn:oG c=true↔_:=qc;generalize oG c=b at hn ⊢;generalize (c.toNat:Int)=k at hn ⊢
  go_enter Tryz.func257,Tryz.ntmps257
  go_wp2
  all_goals go_ret
  all_goals exact ⟨congrArg (fun b=>Ending.returned (.bool b)) (by rw [Bool.eq_iff_iff,hn];simp;try omega),rfl⟩
 ·have hn:gX c=true↔_:=qc;generalize gX c=b at hn ⊢;generalize (c.toNat:Int)=k at hn ⊢
  go_enter Tryz.func259,Tryz.ntmps259
  go_wp2
  all_goals go_ret
  all_goals exact ⟨congrArg (fun b=>Ending.returned (.bool b)) (by rw [Bool.eq_iff_iff,hn];simp;try omega),rfl⟩
abbrev Sp:=Int×Int
def iW (c:UInt8) (l:List Sp):Bool:=l.any fun p=>rng p.1 p.2 c
def spB (x y z:Sp) (s:Str):Bool:=jZ s&&headB (fun c=>iW c [x]) s&&s.all (fun c=>iW c [x,y,z])
theorem LG {x y z:Sp} {s:Str} (h:jZ s=false∨headB (fun c=>iW c [x]) s=false∨s.all (fun c=>iW c [x,y,z])=false):spB x y z s=false:=by
 unfold spB;rcases h with h | h | h<;>(rw [h];simp)
set_option maxHeartbeats 2000000 in
set_option maxRecDepth 100000 in
theorem Tryz.inS (c:UInt8) (l:List Sp) (hl:l.length≤3) (b cap:Nat) (hcap:l.length≤cap∧cap≤3) (w:World) (hb:b<w.heap.size) (hc:∀ i (h:i<l.length),w.cell? ⟨b,i*2,none⟩=some (.int .u8 l[i].1)∧w.cell? ⟨b,i*2+1,none⟩=some (.int .u8 l[i].2)) :
  Calls Tryz.prog 311 #[.int .u8 c.toNat,.slice (some ⟨b,0,none⟩) l.length cap] w fun e w'=>e = .returned (.bool (iW c l))∧Below w.heap.size w w':=by
 go_enter Tryz.func311,Tryz.ntmps311
 go_wp2_with fail
 go_loopw [9] (fun v wr=>∃ i:Nat,v = .int .i64 i∧i≤l.length∧Hid (iW c (l.take i)=false)∧Hid (Below w.heap.size w wr)) (fun v _=>l.length-(intOf v).toNat)
 case atStart=>exact ⟨0,rfl,Nat.zero_le _,hid rfl,hid (Below.refl _ _)⟩
 case round=>
  obtain ⟨i,rfl,hi,ht,hB⟩:=hrel;by_cases hlt:i<l.length
  ·obtain ⟨c0,c1⟩:=hc i hlt;have hn:iW c (l.take (i+1))=rng l[i].1 l[i].2 c:=by
    have:=ht.out;unfold iW at this ⊢;rw [List.take_succ_eq_append_getElem hlt,List.any_append,this];simp
   have hin:rng l[i].1 l[i].2 c=true→Hid (iW c l=true):=fun h=>hid (List.any_eq_true.2 ⟨_,List.getElem_mem hlt,h⟩)
   have hr:rng l[i].1 l[i].2 c=true↔_:=qc;obtain ⟨⟨p,q⟩,hpq⟩:∃ x,l[i]=x:=⟨_,rfl⟩
   rw [hpq] at c0 c1 hn hin hr;simp only at c0 c1 hn hin hr;have c0:=(hB.out.cell (p:=⟨b,i*2,none⟩) hb).trans c0;have c1:=(hB.out.cell (p:=⟨b,i*2+1,none⟩) hb).trans c1;generalize rng p q c=r at *;generalize (c.toNat:Int)=k at *;have hlt2:=hid hlt;have hB1:=hid ((hB.out).alloc hB.out.size (.cells #[.int .u8 p,.int .u8 q] 289))
   replace hn:=hid hn
   clear hpq;rcases (show (k<p∧r=false)∨(p≤k∧q<k∧r=false)∨(p≤k∧k≤q∧r=true) by cases r<;>simp at hr ⊢<;>omega) with ⟨h1,rfl⟩ | ⟨h1,h2,rfl⟩ | ⟨h1,h2,rfl⟩
   ·clear hin hr
    go_wp2_with fail
    exact ⟨⟨i+1,by go_num,hlt2.out,hn,hB1⟩,by have:=hlt2.out;simp [intOf];omega⟩
   ·clear hin hr
    go_wp2_with fail
    exact ⟨⟨i+1,by go_num,hlt2.out,hn,hB1⟩,by have:=hlt2.out;simp [intOf];omega⟩
   ·replace hin:=hid (hin rfl)
    clear hr
    go_wp2_with fail
    go_ret
    exact ⟨by rw [hin.out.out];rfl,hB1.out⟩
  ·obtain rfl:i=l.length:=by omega
   have ht:=ht.out;rw [List.take_length] at ht;have ht:=hid ht
   go_wp2_with fail
   go_ret
   exact ⟨by rw [ht.out];rfl,hB.out⟩
def spV (x y z:Sp):Array Value:=#[.int .u8 x.1,.int .u8 x.2,.int .u8 y.1,.int .u8 y.2,.int .u8 z.1,.int .u8 z.2]
theorem GN {w:World} {b:Nat} {x y z:Sp} {T:TypeId} (h:w.heap[b]?=some (.cells (spV x y z) T (0,0))) (l:List Sp) (hl:l=[x]∨l=[x,y,z]):∀ i (h:i<l.length),w.cell? ⟨b,i*2,none⟩=some (.int .u8 l[i].1)∧w.cell? ⟨b,i*2+1,none⟩=some (.int .u8 l[i].2):=by
 intro i hi;rcases hl with rfl | rfl
 ·obtain rfl:i=0:=by simpa using hi
  simp [World.cell?,h,spV]
 ·match i,hi with
  | 0,_=>simp [World.cell?,h,spV]
  | 1,_=>simp [World.cell?,h,spV]
  | 2,_=>simp [World.cell?,h,spV]
set_option maxHeartbeats 4000000 in
set_option maxRecDepth 100000 in
theorem Tryz.spl (s:Str) (x y z:Sp) (w:World):Calls Tryz.prog 236 #[.string ⟨s.toArray⟩,.agg (spV x y z)] w fun e w'=>e = .returned (.bool (spB x y z s))∧Below w.heap.size w w':=by
 have hsz:(⟨s.toArray⟩:ByteArray).size=s.length:=by simp [ByteArray.size]
 have no:spB x y z s=false→Hid (Ending.returned (.bool false) = .returned (.bool (spB x y z s))):=fun h=>hid (by rw [h])
 obtain ⟨W,hW⟩:∃ W,w.alloc (.cells (spV x y z) 290)=W:=⟨_,rfl⟩
 have hs1:W.heap.size=w.heap.size+1:=by rw [← hW];simp
 have hB0:Hid (Below w.heap.size w W):=hid (by rw [← hW];exact (Below.refl _ w).alloc (Nat.le_refl _) _);have y0:W.heap[w.heap.size]?=some (.cells (spV x y z) 290 (0,0)):=by rw [← hW];exact heap_alloc_new w _
 go_enter Tryz.func236,Tryz.ntmps236
 rcases (show s.length<1∨16<s.length∨(1≤s.length∧s.length≤16) by omega) with h | h | ⟨h1,h2⟩
 ·have hb:=no (LG (.inl (by simp [jZ];omega)));have g1:decide ((s.length:Int)<1)=true:=decide_eq_true (by omega)
  go_wp2_with fail
  go_region
  go_wp2_with fail
  go_ret
  exact ⟨hb.out,hB0.out.drew⟩
 ·have hb:=no (LG (.inl (by simp [jZ];omega)));have g1:decide ((s.length:Int)<1)=false:=decide_eq_false (by omega);have g2:decide (16<(s.length:Int))=true:=decide_eq_true (by omega)
  go_wp2_with fail
  go_region
  go_wp2_with fail
  go_ret
  exact ⟨hb.out,hB0.out.drew⟩
 have g1:decide ((s.length:Int)<1)=false:=decide_eq_false (by omega);have g2:decide (16<(s.length:Int))=false:=decide_eq_false (by omega);have hl:jZ s=true:=by simp [jZ];omega
 obtain ⟨c,r,hs,hix⟩:=kD (P:=Tryz.prog) Tryz.underlying9 h1;have hh:headB (fun c=>iW c [x]) s=iW c [x]:=by rw [hs];rfl
 replace hs:=hid hs
 have hc:=hid (Tryz.inS c [x] (by simp) w.heap.size 3 (by simp) W.drew (by simp [hs1]) (GN y0 _ (.inl rfl)));have hcs:=hid (fun V (hV:Below W.heap.size W V) d=>Tryz.inS d [x,y,z] (by simp) w.heap.size 3 (by simp) V (by have:=hV.size;omega) (GN ((hV.block _ (by omega)).trans y0) _ (.inr rfl)))
 replace y0:=hid y0
 cases hlc:iW c [x] with
 | false=>
   rw [hlc] at hc;have hb:=no (LG (.inr (.inl (hh.trans hlc))));clear no hh hlc hcs
   go_wp2_with fail
   go_region_held3 (fun _=>True) (trivial) (first | (go_at_call 311;refine hc.out.mono ?_;rintro e w1 ⟨rfl,hb1⟩;replace hb1:=hid hb1))
   all_goals go_wp2_with fail
   go_ret
   exact ⟨hb.out,hB0.out.drew.trans (hb1.out.mono (by simp [hs1]))⟩
 | true=>
   rw [hlc] at hc hh;have yes:s.all (fun c=>iW c [x,y,z])=true→Hid (Ending.returned (.bool true) = .returned (.bool (spB x y z s))):=fun d=>hid (by unfold spB;rw [hl,hh,d];rfl)
   replace yes:=hid yes
   replace no:=hid no
   clear hlc hh hl
   go_wp2_with fail
   go_region_held3 (fun _=>True) (trivial) (first | (go_at_call 311;refine hc.out.mono ?_;rintro e w1 ⟨rfl,hb1⟩;replace hb1:=hid hb1))
   all_goals go_wp2_with fail
   go_loopw [5] (fun v wr=>∃ i:Nat,v = .int .i64 i∧i≤s.length∧Hid ((s.take i).all (fun c=>iW c [x,y,z])=true)∧Hid (Below W.heap.size W wr)) (fun v _=>s.length-(intOf v).toNat)
   case atStart=>exact ⟨0,rfl,Nat.zero_le _,hid rfl,hid ((Below.refl _ W).drew.trans hb1.out)⟩
   case round=>
    obtain ⟨i,rfl,hi,ht,hB⟩:=hrel;by_cases hlt:i<s.length
    ·have hx:=fun w=>dA (P:=Tryz.prog) Tryz.underlying9 hlt w
     have fin:iW s[i] [x,y,z]=true→_:=fun hn=>hid (pG (p:=fun c=>iW c [x,y,z]) hlt ht.out hn)
     have bad:iW s[i] [x,y,z]=false→_:=fun hn=>no.out (LG (.inr (.inr (uQ (p:=fun c=>iW c [x,y,z]) hlt hn))))
     have hC:=hid (hcs.out wr.drew hB.out.drew s[i]);generalize iW s[i] [x,y,z]=x1 at *;generalize (s[i].toNat:Int)=k at *;have hlt2:=hid hlt;cases x1 with
     | true=>
       replace fin:=hid (fin rfl)
       clear bad
       go_wp2_with fail
       go_region_held3 (fun _=>True) (trivial) (first | (go_at_call 311;refine hC.out.mono ?_;rintro e w2 ⟨rfl,hb2⟩;replace hb2:=hid hb2))
       all_goals go_wp2_with fail
       exact ⟨⟨i+1,by go_num,hlt2.out,fin.out,hid (hB.out.drew.trans (hb2.out.mono hB.out.size))⟩,by have:=hlt2.out;simp [intOf];omega⟩
     | false=>
       replace bad:=hid (bad rfl)
       clear fin
       go_wp2_with fail
       go_region_held3 (fun _=>True) (trivial) (first | (go_at_call 311;refine hC.out.mono ?_;rintro e w2 ⟨rfl,hb2⟩;replace hb2:=hid hb2))
       all_goals go_wp2_with fail
       go_ret
       exact ⟨bad.out.out,hB0.out.trans ((hB.out.drew.trans (hb2.out.mono hB.out.size)).mono (by omega))⟩
    ·obtain rfl:i=s.length:=by omega
     go_wp2_with fail
     go_ret
     have:=ht.out;rw [List.take_length] at this;exact ⟨(yes.out this).out,hB0.out.trans (hB.out.mono (by omega))⟩
theorem wrap_u8 {n:Int} (h:0≤n) (h':n<256):IntKind.u8.wrap n=n:=by
 unfold IntKind.wrap;simp [IntKind.bits,IntKind.signed];omega
theorem zu {s:Str} {i:Nat} (h:i<s.length):numAt 0 (s.take (i+1))=10*numAt 0 (s.take i)+((s[i].toNat:Int)-48):=by
 rw [List.take_succ_eq_append_getElem h,zq]
theorem vN {s:Str} {i:Nat} (hs:s.length≤4) (hd:(s.take i).all gX=true):0≤numAt 0 (s.take i)∧numAt 0 (s.take i)≤9999:=H8 (by simp;omega) hd
def A8 (s:Str):Value := .tuple #[.int .i64 (oQ s),.bool (bM s)]
theorem kU {s:Str} (h:bM s=false):Hid (Ending.returned (.tuple #[.int .i64 0,.bool false]) = .returned (A8 s)):=hid (by unfold A8 oQ;rw [h];rfl)
theorem H7 {s:Str} (h:bM s=true):Hid (Ending.returned (.tuple #[.int .i64 (numAt 0 s),.bool true]) = .returned (A8 s)):=hid (by unfold A8 oQ;rw [h];rfl)
set_option maxHeartbeats 4000000 in
set_option maxRecDepth 100000 in
theorem Tryz.TI (s:Str):Gives Tryz.prog 180 #[.string ⟨s.toArray⟩] (A8 s):=fun w=>by
 have hsz:(⟨s.toArray⟩:ByteArray).size=s.length:=by simp [ByteArray.size]
 rcases (show s.length<1∨4<s.length∨(1≤s.length∧s.length≤4) by omega) with h | h | ⟨h1,h2⟩
 ·have hb:=kU (kW (s:=s) (.inl h))
  go_enter Tryz.func180,Tryz.ntmps180
  go_wp2_with fail
  go_ret2
  exact ⟨hb.out,rfl⟩
 ·have hb:=kU (kW (s:=s) (.inr (.inl h)))
  go_enter Tryz.func180,Tryz.ntmps180
  go_wp2_with fail
  go_ret2
  exact ⟨hb.out,rfl⟩
 obtain ⟨c,r,hs,hix⟩:=kD (P:=Tryz.prog) Tryz.underlying9 h1;have hh:headB (fun c=>decide ((c.toNat:Int)=48)) s=decide ((c.toNat:Int)=48):=by rw [hs];rfl
 replace hs:=hid hs
 generalize (c.toNat:Int)=k0 at hix hh;rcases (show (k0=48∧1<s.length)∨(¬ 1<s.length∨(1<s.length∧(k0==48)=false)) by rw [beq_eq_false_iff_ne];omega) with ⟨rfl,hl1⟩ | hcase
 ·have hb:=kU (kW (s:=s) (.inr (.inr (.inl ⟨by rw [hh];rfl,hl1⟩))));clear hh
  go_enter Tryz.func180,Tryz.ntmps180
  go_wp2_with fail
  go_ret2
  exact ⟨hb.out,rfl⟩
 have h3:=hid (show ¬ (headB (fun c=>decide ((c.toNat:Int)=48)) s=true∧1<s.length) from fun ⟨e1,e2⟩=>by rw [hh] at e1;have:=of_decide_eq_true e1;rw [beq_eq_false_iff_ne] at hcase;omega);clear hh
 go_enter Tryz.func180,Tryz.ntmps180
 rcases hcase with hl1 | ⟨hl1,hk0⟩<;>go_wp2_with fail
 all_goals
  go_loopw [4,26] (fun vn vi wr=>∃ i:Nat,vn = .int .i64 (numAt 0 (s.take i))∧vi = .int .i64 i∧i≤s.length∧Hid ((s.take i).all gX=true)∧wr=w) (fun _ v _=>s.length-(intOf v).toNat)
  case atStart=>exact ⟨0,rfl,rfl,Nat.zero_le _,hid rfl,rfl⟩
  case round=>
   obtain ⟨i,rfl,rfl,hi,ht,rfl⟩:=hrel;by_cases hlt:i<s.length
   ·have hx:=fun w=>dA (P:=Tryz.prog) Tryz.underlying9 hlt w
    obtain ⟨_,_,b3⟩:=Tryz.uM s[i];have hbad:gX s[i]=false→_:=fun h=>kU (kW (.inr (.inr (.inr (uQ hlt h)))))
    have hgood:gX s[i]=true→Hid ((s.take (i+1)).all gX=true):=fun h=>hid (pG hlt ht.out h)
    have hd:gX s[i]=true↔_:=qc;have hnx:=hid (zu hlt);obtain ⟨n1,n2⟩:=vN h2 ht.out;generalize gX s[i]=b at *;generalize (s[i].toNat:Int)=k at *;generalize hn:numAt 0 (s.take i)=n at *;have hlt2:=hid hlt;cases b with
    | true=>
      obtain ⟨d1,d2⟩:=hd.1 rfl;have hw:IntKind.u8.wrap (k-48)=k-48:=wrap_u8 (by omega) (by omega)
      replace hgood:=hid (hgood rfl)
      clear hbad hd
      go_wp2_with (go_at_call 259;refine (b3 _).mono ?_;rintro e w1 ⟨rfl,rfl⟩)
      go_roundw
      case rel=>exact ⟨i+1,by rw [hnx.out],by go_num,hlt2.out,hgood.out.out,trivial⟩
      case measure=>have:=hlt2.out;simp [intOf];omega
    | false=>
      have hb:=hbad rfl;clear hbad hgood hd
      go_wp2_with (go_at_call 259;refine (b3 _).mono ?_;rintro e w1 ⟨rfl,rfl⟩)
      go_ret2
      exact ⟨hb.out,rfl⟩
   ·obtain rfl:i=s.length:=by omega
    have ht:=ht.out;rw [List.take_length] at ht ⊢;have hy:=H7 (Nr h1 h2 h3.out ht)
    go_wp2_with fail
    go_ret2
    exact ⟨hy.out,rfl⟩
set_option maxHeartbeats 1000000 in
set_option maxRecDepth 100000 in
theorem Tryz.aai (s:Str):Gives Tryz.prog 178 #[.string ⟨s.toArray⟩] (.bool (bM s)):=fun w=>by
 have c:=Tryz.TI s;unfold A8 at c;generalize bM s=b at *
 go_enter Tryz.func178,Tryz.ntmps178
 go_wp2_with (go_at_call 180;refine (c _).mono ?_;rintro e w1 ⟨rfl,rfl⟩)
 go_ret
 exact ⟨rfl,rfl⟩
set_option maxHeartbeats 1000000 in
set_option maxRecDepth 100000 in
theorem Tryz.ZT (s:Str):Gives Tryz.prog 112 #[.string ⟨s.toArray⟩] (.int .i64 (oQ s)):=fun w=>by
 have c:=Tryz.TI s;unfold A8 at c;generalize oQ s=b at *
 go_enter Tryz.func112,Tryz.ntmps112
 go_wp2_with (go_at_call 180;refine (c _).mono ?_;rintro e w1 ⟨rfl,rfl⟩)
 go_ret
 exact ⟨rfl,rfl⟩
set_option maxHeartbeats 4000000 in
set_option maxRecDepth 100000 in
theorem Tryz.adY (s:Str):Gives Tryz.prog 179 #[.string ⟨s.toArray⟩] (.bool (iH s)):=fun w=>by
 have hsz:(⟨s.toArray⟩:ByteArray).size=s.length:=by simp [ByteArray.size]
 have no:iH s=false→Hid (Ending.returned (.bool false) = .returned (.bool (iH s))):=fun h=>hid (by rw [h])
 rcases (show s.length<1∨16<s.length∨(1≤s.length∧s.length≤16) by omega) with h | h | ⟨h1,h2⟩
 ·have hb:=no (Eb (.inl (by simp [jZ];omega)))
  go_enter Tryz.func179,Tryz.ntmps179
  go_wp2_with fail
  go_ret
  exact ⟨hb.out,rfl⟩
 ·have hb:=no (Eb (.inl (by simp [jZ];omega)))
  go_enter Tryz.func179,Tryz.ntmps179
  go_wp2_with fail
  go_ret
  exact ⟨hb.out,rfl⟩
 have hl:jZ s=true:=by simp [jZ];omega
 obtain ⟨c,r,hs,hix⟩:=kD (P:=Tryz.prog) Tryz.underlying9 h1;have hh:headB oG s=oG c:=by rw [hs];rfl
 have hc:=(Tryz.uM c).2.1
 replace hs:=hid hs
 cases hlc:oG c with
 | false=>
   rw [hlc] at hc;have hb:=no (Eb (.inr (.inl (hh.trans hlc))));clear no hh hlc
   go_enter Tryz.func179,Tryz.ntmps179
   go_wp2_with (go_at_call 257;refine (hc _).mono ?_;rintro e w1 ⟨rfl,rfl⟩)
   go_ret
   exact ⟨hb.out,rfl⟩
 | true=>
   rw [hlc] at hc hh;have yes:s.all yC=true→Hid (Ending.returned (.bool true) = .returned (.bool (iH s))):=fun d=>hid (by rw [adX hl hh d])
   replace yes:=hid yes
   replace no:=hid no
   clear hlc hh hl
   go_enter Tryz.func179,Tryz.ntmps179
   go_wp2_with (go_at_call 257;refine (hc _).mono ?_;rintro e w1 ⟨rfl,rfl⟩)
   go_loopw [20] (fun v wr=>∃ i:Nat,v = .int .i64 i∧i≤s.length∧Hid ((s.take i).all yC=true)∧wr=w1) (fun v _=>s.length-(intOf v).toNat)
   case atStart=>exact ⟨0,rfl,Nat.zero_le _,hid rfl,rfl⟩
   case round=>
    obtain ⟨i,rfl,hi,ht,rfl⟩:=hrel;by_cases hlt:i<s.length
    ·have hx:=fun w=>dA (P:=Tryz.prog) Tryz.underlying9 hlt w
     have fin:yC s[i]=true→_:=fun hn=>hid (pG hlt ht.out hn)
     have bad:yC s[i]=false→_:=fun hn=>no.out (Eb (.inr (.inr (uQ hlt hn))))
     obtain ⟨b1,b2,b3⟩:=Tryz.uM s[i];have hn:yC s[i]=(oG s[i]||(jA s[i]||gX s[i])):=rfl;generalize jA s[i]=x1 at *;generalize oG s[i]=x2 at *;generalize gX s[i]=x3 at *;generalize yC s[i]=x5 at *;generalize (s[i].toNat:Int)=k at *;subst hn
     replace fin:=hid fin
     replace bad:=hid bad
     have hlt2:=hid hlt;rcases (show x1=true∨(x1=false∧x2=true)∨(x1=false∧x2=false∧x3=true)∨(x1=false∧x2=false∧x3=false) by cases x1<;>cases x2<;>cases x3<;>simp) with rfl | ⟨rfl,rfl⟩ | ⟨rfl,rfl,rfl⟩ | ⟨rfl,rfl,rfl⟩ <;>
      (go_wp2_with (first
       | (go_at_call 258;refine (b1 _).mono ?_;rintro e w1 ⟨rfl,rfl⟩)
       | (go_at_call 257;refine (b2 _).mono ?_;rintro e w1 ⟨rfl,rfl⟩)
       | (go_at_call 259;refine (b3 _).mono ?_;rintro e w1 ⟨rfl,rfl⟩)))
     ·exact ⟨⟨i+1,by go_num,hlt2.out,fin.out (by simp),trivial⟩,by have:=hlt2.out;simp [intOf];omega⟩
     ·exact ⟨⟨i+1,by go_num,hlt2.out,fin.out (by simp),trivial⟩,by have:=hlt2.out;simp [intOf];omega⟩
     ·exact ⟨⟨i+1,by go_num,hlt2.out,fin.out (by simp),trivial⟩,by have:=hlt2.out;simp [intOf];omega⟩
     ·go_ret
      exact ⟨(bad.out rfl).out,rfl⟩
    ·obtain rfl:i=s.length:=by omega
     go_wp2_with fail
     go_ret
     have:=ht.out;rw [List.take_length] at this;exact ⟨(yes.out this).out,rfl⟩
theorem Xm (s:Str):spB (97,122) (48,57) (45,45) s=(jZ s&&headB jA s&&s.all kY):=by
 have h1:(fun c=>iW c [(97,122)])=jA:=by funext c;simp [iW,jA]
 have h2:(fun c=>iW c [(97,122),(48,57),(45,45)])=kY:=by funext c;simp [iW,kY,jA,gX,hyB]
 unfold spB;rw [h1,h2]
theorem ad8 (s:Str):spB (65,90) (97,122) (48,57) s=iH s:=by
 have h1:(fun c=>iW c [(65,90)])=oG:=by funext c;simp [iW,oG]
 have h2:(fun c=>iW c [(65,90),(97,122),(48,57)])=yC:=by funext c;simp [iW,yC,jA,gX,oG]
 unfold spB iH;rw [h1,h2]
set_option maxHeartbeats 1000000 in
set_option maxRecDepth 100000 in
theorem Tryz.va (s:Str) (w:World):Calls Tryz.prog 161 #[.string ⟨s.toArray⟩] w fun e w'=>e = .returned (.bool (iH s))∧Below w.heap.size w w':=by
 have c:=fun w=>Tryz.spl s (65,90) (97,122) (48,57) w
 simp only [ad8,spV] at c;generalize iH s=b at *
 go_enter Tryz.func161,Tryz.ntmps161
 go_wp2_with (go_at_call 236;refine (c _).mono ?_;rintro e w1 ⟨rfl,hb1⟩)
 go_ret
 exact ⟨rfl,hb1⟩
set_option maxHeartbeats 1000000 in
set_option maxRecDepth 100000 in
theorem Tryz.nm (s:Str) (w:World):Calls Tryz.prog 172 #[.string ⟨s.toArray⟩] w fun e w'=>e = .returned (.bool (nameB s))∧Below w.heap.size w w':=by
 have c:=fun w=>Tryz.spl s (97,122) (48,57) (45,45) w
 simp only [Xm,spV] at c;unfold nameB;have f1:(s==[105,102])=(s==sIf):=rfl;have f2:(s==[97,110,100])=(s==iM):=rfl;have f3:(s==[110,111,116])=(s==iK):=rfl;generalize (s==sIf)=x1 at *;generalize (s==iM)=x2 at *;generalize (s==iK)=x3 at *;generalize (jZ s&&headB jA s&&s.all kY)=b at *
 go_enter Tryz.func172,Tryz.ntmps172
 rcases (show b=false∨(b=true∧x1=true)∨(b=true∧x1=false∧x2=true)∨(b=true∧x1=false∧x2=false) by cases b<;>cases x1<;>cases x2<;>simp) with rfl | ⟨rfl,rfl⟩ | ⟨rfl,rfl,rfl⟩ | ⟨rfl,rfl,rfl⟩ <;>
  (go_wp2_with (go_at_call 236;refine (c _).mono ?_;rintro e w1 ⟨rfl,hb1⟩))<;>go_ret<;>exact ⟨by simp,hb1⟩
set_option maxHeartbeats 4000000 in
set_option maxRecDepth 100000 in
theorem Tryz.num (s:Str):Gives Tryz.prog 160 #[.string ⟨s.toArray⟩] (A8 s):=fun w=>by
 have hsz:(⟨s.toArray⟩:ByteArray).size=s.length:=by simp [ByteArray.size]
 rcases (show s.length<1∨4<s.length∨(1≤s.length∧s.length≤4) by omega) with h | h | ⟨h1,h2⟩
 ·have hb:=kU (kW (s:=s) (.inl h))
  go_enter Tryz.func160,Tryz.ntmps160
  go_wp2_with fail
  go_ret2
  exact ⟨hb.out,rfl⟩
 ·have hb:=kU (kW (s:=s) (.inr (.inl h)))
  go_enter Tryz.func160,Tryz.ntmps160
  go_wp2_with fail
  go_ret2
  exact ⟨hb.out,rfl⟩
 obtain ⟨c,r,hs,hix⟩:=kD (P:=Tryz.prog) Tryz.underlying9 h1;have hh:headB (fun c=>decide ((c.toNat:Int)=48)) s=decide ((c.toNat:Int)=48):=by rw [hs];rfl
 replace hs:=hid hs
 generalize (c.toNat:Int)=k0 at hix hh;rcases (show (k0=48∧1<s.length)∨((k0==48)=false∨(k0=48∧¬ 1<s.length)) by rw [beq_eq_false_iff_ne];omega) with ⟨rfl,hl1⟩ | hcase
 ·have hb:=kU (kW (s:=s) (.inr (.inr (.inl ⟨by rw [hh];rfl,hl1⟩))));clear hh
  go_enter Tryz.func160,Tryz.ntmps160
  go_wp2_with fail
  go_ret2
  exact ⟨hb.out,rfl⟩
 have h3:=hid (show ¬ (headB (fun c=>decide ((c.toNat:Int)=48)) s=true∧1<s.length) from fun ⟨e1,e2⟩=>by rw [hh] at e1;have:=of_decide_eq_true e1;rw [beq_eq_false_iff_ne] at hcase;omega);clear hh
 go_enter Tryz.func160,Tryz.ntmps160
 rcases hcase with hk0 | ⟨rfl,hl1⟩<;>go_wp2_with fail
 all_goals
  go_loopw [4,5] (fun vn vi wr=>∃ i:Nat,vn = .int .i64 (numAt 0 (s.take i))∧vi = .int .i64 i∧i≤s.length∧Hid ((s.take i).all gX=true)∧wr=w) (fun _ v _=>s.length-(intOf v).toNat)
  case atStart=>exact ⟨0,rfl,rfl,Nat.zero_le _,hid rfl,rfl⟩
  case round=>
   obtain ⟨i,rfl,rfl,hi,ht,rfl⟩:=hrel;by_cases hlt:i<s.length
   ·have hx:=fun w=>dA (P:=Tryz.prog) Tryz.underlying9 hlt w
    have hbad:gX s[i]=false→_:=fun h=>kU (kW (.inr (.inr (.inr (uQ hlt h)))))
    have hgood:gX s[i]=true→Hid ((s.take (i+1)).all gX=true):=fun h=>hid (pG hlt ht.out h)
    have hd:gX s[i]=true↔_:=qc;have hnx:=hid (zu hlt);obtain ⟨n1,n2⟩:=vN h2 ht.out;generalize gX s[i]=b at *;generalize (s[i].toNat:Int)=k at *;generalize hn:numAt 0 (s.take i)=n at *;have hlt2:=hid hlt;rcases (show (48≤k∧k≤57∧b=true)∨(k<48∧b=false)∨(48≤k∧57<k∧b=false) by cases b<;>simp at hd ⊢<;>omega) with ⟨d1,d2,rfl⟩ | ⟨d1,rfl⟩ | ⟨d1,d2,rfl⟩
    ·have hw:IntKind.u8.wrap (k-48)=k-48:=wrap_u8 (by omega) (by omega)
     replace hgood:=hid (hgood rfl)
     clear hbad hd
     go_wp2_with fail
     go_roundw
     case rel=>exact ⟨i+1,by rw [hnx.out],by go_num,hlt2.out,hgood.out.out,trivial⟩
     case measure=>have:=hlt2.out;simp [intOf];omega
    ·have hb:=hbad rfl;clear hbad hgood hd
     go_wp2_with fail
     go_ret2
     exact ⟨hb.out,rfl⟩
    ·have hb:=hbad rfl;clear hbad hgood hd
     go_wp2_with fail
     go_ret2
     exact ⟨hb.out,rfl⟩
   ·obtain rfl:i=s.length:=by omega
    have ht:=ht.out;have hy:=H7 (Nr h1 h2 h3.out (by rw [List.take_length] at ht;exact ht));obtain ⟨n1,n2⟩:=vN h2 ht;rw [List.take_length] at ht n1 n2 ⊢;generalize numAt 0 s=n at *;have hd:decide (n≤9999)=true:=decide_eq_true n2
    go_wp2_with fail
    go_ret2
    exact ⟨by rw [← hy.out];first | rfl | simp [n2],rfl⟩
set_option maxHeartbeats 1000000 in
set_option maxRecDepth 100000 in
theorem Tryz.isN (s:Str):Gives Tryz.prog 173 #[.string ⟨s.toArray⟩] (.bool (bM s)):=fun w=>by
 have c:=Tryz.num s;unfold A8 at c;generalize bM s=b at *
 go_enter Tryz.func173,Tryz.ntmps173
 go_wp2_with (go_at_call 160;refine (c _).mono ?_;rintro e w1 ⟨rfl,rfl⟩)
 go_ret
 exact ⟨rfl,rfl⟩
end Go.Proofs
namespace Go.Proofs
open Go Go.RowKit Go.Shelf Go.Abs Go.Own Go.Proofs.YtpmapognbdiahaaGreatDoor
theorem Ja:∀ a b:Str,Lib.compareBytes a b=fH a b
 | [],[]=>rfl
 | [],_::_=>rfl
 | _::_,[]=>rfl
 | a::l,b::m=>by unfold Lib.compareBytes fH;rw [Ja l m]
set_option maxHeartbeats 1000000 in
set_option maxRecDepth 100000 in
theorem Tryz.agw (a b:Str):Gives Tryz.prog 162 #[.string ⟨a.toArray⟩,.string ⟨b.toArray⟩] (.int .i64 (fH a b)):=fun w=>by
 go_enter Tryz.func162,Tryz.ntmps162
 go_wp2
 rw [run_callFunc_extern Tryz.func237 (by kernel_rfl) (by kernel_rfl) (by kernel_rfl) (e:=Extern.BytealgCompare.compare) (by kernel_rfl)];rw [Lib.run_compareString];simp only [Result.andThen];rw [Oper.upon_value]
 go_wp2
 go_ret
 exact ⟨by rw [← Ja];rfl,rfl⟩
set_option maxHeartbeats 1000000 in
set_option maxRecDepth 100000 in
theorem Tryz.aiK (a b:Str):Gives Tryz.prog 97 #[.string ⟨a.toArray⟩,.string ⟨b.toArray⟩] (.int .i64 (fH a b)):=fun w=>by
 have c:=Tryz.agw a b
 go_enter Tryz.func97,Tryz.ntmps97
 go_wp2_with (go_at_call 162;refine (c _).mono ?_;rintro e w1 ⟨rfl,rfl⟩)
 go_ret
 exact ⟨rfl,rfl⟩
theorem CY:∀ a b:Str,Op.bytesLess a b=decide (fH a b<0)
 | [],[]=>by simp [Op.bytesLess,fH]
 | [],_::_=>by simp [Op.bytesLess,fH]
 | _::_,[]=>by simp [Op.bytesLess,fH]
 | a::l,b::m=>by
   unfold Op.bytesLess fH;by_cases h:a<b
   ·simp [h]
   ·by_cases h':b<a
    ·have:a≠b:=(by rintro rfl;exact h h');simp [h,h',this]
    ·have:a=b:=UInt8.le_antisymm (UInt8.not_lt.1 h') (UInt8.not_lt.1 h);subst this;simp [UInt8.lt_irrefl,CY l m]
theorem uJ:∀ {a b:Str},fH a b=0↔a=b
 | [],[]=>by simp [fH]
 | [],_::_=>by simp [fH]
 | _::_,[]=>by simp [fH]
 | a::l,b::m=>by
   unfold fH;by_cases h:a<b
   ·have:a≠b:=(by rintro rfl;exact UInt8.lt_irrefl _ h);simp [h,this]
   ·by_cases h':b<a
    ·have:a≠b:=(by rintro rfl;exact h h');simp [h,h',this]
    ·have:a=b:=UInt8.le_antisymm (UInt8.not_lt.1 h') (UInt8.not_lt.1 h);subst this;simp [UInt8.lt_irrefl,uJ]
theorem Ai:∀ a b:Str,fH a b=-1∨fH a b=0∨fH a b=1
 | [],[]=>by simp [fH]
 | [],_::_=>by simp [fH]
 | _::_,[]=>by simp [fH]
 | a::l,b::m=>by
   unfold fH;split
   ·exact .inl rfl
   ·split
    ·exact .inr (.inr rfl)
    ·exact Ai l m
set_option maxHeartbeats 1000000 in
set_option maxRecDepth 100000 in
theorem Tryz.agZ (a b:Str):Gives Tryz.prog 113 #[.string ⟨a.toArray⟩,.string ⟨b.toArray⟩] (.int .i64 (fH a b)):=fun w=>by
 have h1:=CY a b;have h2:(a==b)=decide (fH a b=0):=by rw [Bool.eq_iff_iff];simp [uJ]
 have h4:=Ai a b;generalize fH a b=k at *;rcases h4 with rfl | rfl | rfl
 all_goals
  simp only [Int.reduceLT,Int.reduceNeg,Int.reduceEq,decide_true,decide_false] at h1 h2
  go_enter Tryz.func113,Tryz.ntmps113
  go_wp2
  go_ret
  exact ⟨rfl,rfl⟩
set_option maxHeartbeats 1000000 in
set_option maxRecDepth 100000 in
theorem Tryz.signs (a b:Int):Gives Tryz.prog 110 #[.int .i64 a,.int .i64 b] (.int .i64 (jc a b))∧Gives Tryz.prog 96 #[.int .i64 a,.int .i64 b] (.int .i64 (jc a b)):=by
 have hk:jc a b=if a<b then -1 else if b<a then 1 else 0:=rfl
 generalize jc a b=k at *;rcases Int.lt_trichotomy a b with h | h | h
 ·rw [if_pos h] at hk;subst hk;refine ⟨fun w=>?_,fun w=>?_⟩
  ·go_enter Tryz.func110,Tryz.ntmps110
   go_wp2
   go_ret
   exact ⟨rfl,rfl⟩
  ·go_enter Tryz.func96,Tryz.ntmps96
   go_wp2
   go_ret
   exact ⟨rfl,rfl⟩
 ·rw [if_neg (by omega),if_neg (by omega)] at hk;subst hk;refine ⟨fun w=>?_,fun w=>?_⟩
  ·go_enter Tryz.func110,Tryz.ntmps110
   go_wp2
   go_ret
   exact ⟨rfl,rfl⟩
  ·go_enter Tryz.func96,Tryz.ntmps96
   go_wp2
   go_ret
   exact ⟨rfl,rfl⟩
 ·rw [if_neg (by omega),if_pos h] at hk;subst hk;refine ⟨fun w=>?_,fun w=>?_⟩
  ·go_enter Tryz.func110,Tryz.ntmps110
   go_wp2
   go_ret
   exact ⟨rfl,rfl⟩
  ·go_enter Tryz.func96,Tryz.ntmps96
   go_wp2
   go_ret
   exact ⟨rfl,rfl⟩
end Go.Proofs
namespace Go.Proofs
open Go Go.RowKit Go.Shelf Go.Own Go.Proofs.YtpmapognbdiahaaGreatDoor
set_option maxHeartbeats 4000000 in
set_option maxRecDepth 100000 in
theorem Tryz.aew (s:Str):Gives Tryz.prog 256 #[.string ⟨s.toArray⟩] (.bool (nameB s)):=fun w=>by
 have hsz:(⟨s.toArray⟩:ByteArray).size=s.length:=by simp [ByteArray.size]
 have no:nameB s=false→Hid (Ending.returned (.bool false) = .returned (.bool (nameB s))):=fun h=>hid (by rw [h])
 rcases (show s.length<1∨16<s.length∨(1≤s.length∧s.length≤16) by omega) with h | h | ⟨h1,h2⟩
 ·have hb:=no (kZ (.inl (by simp [jZ];omega)))
  go_enter Tryz.func256,Tryz.ntmps256
  go_wp2_with fail
  go_ret
  exact ⟨hb.out,rfl⟩
 ·have hb:=no (kZ (.inl (by simp [jZ];omega)))
  go_enter Tryz.func256,Tryz.ntmps256
  go_wp2_with fail
  go_ret
  exact ⟨hb.out,rfl⟩
 have hl:jZ s=true:=by simp [jZ];omega
 obtain ⟨c,r,hs,hix⟩:=kD (P:=Tryz.prog) Tryz.underlying9 h1;have hh:headB jA s=jA c:=by rw [hs];rfl
 have hc:=(Tryz.uM c).1
 replace hs:=hid hs
 cases hlc:jA c with
 | false=>
   rw [hlc] at hc;have hb:=no (kZ (.inr (.inl (hh.trans hlc))));clear no hh hlc
   go_enter Tryz.func256,Tryz.ntmps256
   go_wp2_with (go_at_call 258;refine (hc _).mono ?_;rintro e w1 ⟨rfl,rfl⟩)
   go_ret
   exact ⟨hb.out,rfl⟩
 | true=>
   rw [hlc] at hc hh;have f1:(s==[105,102])=(s==sIf):=rfl;have f2:(s==[97,110,100])=(s==iM):=rfl;have f3:(s==[110,111,116])=(s==iK):=rfl;have n1:(s==sIf)=true→Hid (Ending.returned (.bool false) = .returned (.bool (nameB s))):=fun h=>no (kZ (.inr (.inr (.inr (.inl (by simpa using h))))))
   have n2:(s==iM)=true→Hid (Ending.returned (.bool false) = .returned (.bool (nameB s))):=fun h=>no (kZ (.inr (.inr (.inr (.inr (.inl (by simpa using h)))))))
   have n3:(s==iK)=true→Hid (Ending.returned (.bool false) = .returned (.bool (nameB s))):=fun h=>no (kZ (.inr (.inr (.inr (.inr (.inr (by simpa using h)))))))
   have yes:(s==sIf)=false→(s==iM)=false→(s==iK)=false→s.all kY=true→Hid (Ending.returned (.bool true) = .returned (.bool (nameB s))):=fun a b c d=>hid (by rw [XJ hl hh d (by simpa using a) (by simpa using b) (by simpa using c)])
   generalize (s==sIf)=x1 at *;generalize (s==iM)=x2 at *;generalize (s==iK)=x3 at *
   replace n1:=hid n1
   replace n2:=hid n2
   replace n3:=hid n3
   replace yes:=hid yes
   replace no:=hid no
   clear hlc hh hl
   go_enter Tryz.func256,Tryz.ntmps256
   cases x1
   case' true=>go_wp2_with (go_at_call 258;refine (hc _).mono ?_;rintro e w1 ⟨rfl,rfl⟩)
   case true=>go_ret;exact ⟨(n1.out trivial).out,rfl⟩
   cases x2
   case' true=>go_wp2_with (go_at_call 258;refine (hc _).mono ?_;rintro e w1 ⟨rfl,rfl⟩)
   case true=>go_ret;exact ⟨(n2.out trivial).out,rfl⟩
   cases x3
   case' true=>go_wp2_with (go_at_call 258;refine (hc _).mono ?_;rintro e w1 ⟨rfl,rfl⟩)
   case true=>go_ret;exact ⟨(n3.out trivial).out,rfl⟩
   go_wp2_with (go_at_call 258;refine (hc _).mono ?_;rintro e w1 ⟨rfl,rfl⟩)
   go_loopw [32] (fun v wr=>∃ i:Nat,v = .int .i64 i∧i≤s.length∧Hid ((s.take i).all kY=true)∧wr=w1) (fun v _=>s.length-(intOf v).toNat)
   case atStart=>exact ⟨0,rfl,Nat.zero_le _,hid rfl,rfl⟩
   case round=>
    obtain ⟨i,rfl,hi,ht,rfl⟩:=hrel;by_cases hlt:i<s.length
    ·have hx:=fun w=>dA (P:=Tryz.prog) Tryz.underlying9 hlt w
     have fin:kY s[i]=true→_:=fun hn=>hid (pG hlt ht.out hn)
     have bad:kY s[i]=false→_:=fun hn=>no.out (kZ (.inr (.inr (.inl (uQ hlt hn)))))
     obtain ⟨b1,_,b3⟩:=Tryz.uM s[i];have hn:kY s[i]=(jA s[i]||(gX s[i]||hyB s[i])):=rfl;have hy:hyB s[i]=decide ((s[i].toNat:Int)=45):=(by rw [Bool.eq_iff_iff];simp [hyB,rng];omega);generalize jA s[i]=x1 at *;generalize gX s[i]=x3 at *;generalize hyB s[i]=x4 at *;generalize kY s[i]=x5 at *;generalize (s[i].toNat:Int)=k at *;subst hn
     replace fin:=hid fin
     replace bad:=hid bad
     have hlt2:=hid hlt;rcases (show x1=true∨(x1=false∧x3=true)∨(x1=false∧x3=false∧k=45)∨(x1=false∧x3=false∧k≠45) by cases x1<;>cases x3<;>simp;omega) with rfl | ⟨rfl,rfl⟩ | ⟨rfl,rfl,rfl⟩ | ⟨rfl,rfl,h45⟩ <;>
      (go_wp2_with (first
       | (go_at_call 258;refine (b1 _).mono ?_;rintro e w1 ⟨rfl,rfl⟩)
       | (go_at_call 259;refine (b3 _).mono ?_;rintro e w1 ⟨rfl,rfl⟩)))
     ·refine ⟨⟨i+1,by go_num,hlt2.out,fin.out (by simp),trivial⟩,by have:=hlt2.out;simp [intOf];omega⟩
     ·refine ⟨⟨i+1,by go_num,hlt2.out,fin.out (by simp),trivial⟩,by have:=hlt2.out;simp [intOf];omega⟩
     ·refine ⟨⟨i+1,by go_num,hlt2.out,fin.out (by simp [hy]),trivial⟩,by have:=hlt2.out;simp [intOf];omega⟩
     ·go_ret
      exact ⟨(bad.out (by simp [hy,h45])).out,rfl⟩
    ·obtain rfl:i=s.length:=by omega
     go_wp2_with fail
     go_ret
     have:=ht.out;rw [List.take_length] at this;exact ⟨(yes.out trivial trivial trivial this).out,rfl⟩
end Go.Proofs
namespace Go.Proofs
open Go Go.RowKit Go.Shelf Go.Abs Go.Own Go.Proofs.YtpmapognbdiahaaGreatDoor
theorem Bf {w:World} {v:Value} {t:Tm} (hv:RdD (fun b=>b<w.heap.size) w v (enT t)) (T:TypeId):∃ a cap,v = .agg #[.string ⟨t.name.toArray⟩,.slice a t.args.length cap]∧t.args.length≤9223372036854775807 ∧
  Hid (Below w.heap.size w (w.alloc (.cells #[.string ⟨t.name.toArray⟩,.slice a t.args.length cap] T))) ∧
  Hid (t.args=[]∨∃ b o,a=some ⟨b,o,none⟩∧b<w.heap.size∧t.args.length≤cap∧cap≤maxLen∧∀ i (hi:i<t.args.length),∃ u0 u1,w.cell? ⟨b,o+i*2,none⟩=some u0∧w.cell? ⟨b,o+(i*2+1),none⟩=some u1∧RdD (fun b=>b<w.heap.size) w (.agg #[u0,u1]) (enT t.args[i])):=by
 obtain ⟨n,l⟩:=t;obtain ⟨u,rfl,hu⟩:=rdt hv;obtain ⟨a,cap,rfl,hc⟩:=rdl hu;refine ⟨a,cap,rfl,?_,hid ((Below.refl _ w).alloc (Nat.le_refl _) _),hid hc⟩;rcases hc with rfl | ⟨b,o,_,_,h1,h2,_⟩
 ·simp [Tm.args]
 ·simp only [maxLen] at h2;simp only [Tm.args];omega
section
variable (t:Tm) (w:World) (v:Value) (hv:RdD (fun b=>b<w.heap.size) w v (enT t))
include hv
set_option maxHeartbeats 1000000 in
set_option maxRecDepth 100000 in
theorem Tryz.adQ:Calls Tryz.prog 111 #[v] w fun e w'=>e = .returned (.int .i64 (cu t))∧Below w.heap.size w w':=by
 obtain ⟨a,cap,rfl,hm,HB0,HC⟩:=Bf hv 42;clear hv HC;unfold cu;generalize t.name=n at *;generalize t.args.length=k at *;have cN:=Tryz.aai n;have cV:=Tryz.adY n;generalize bM n=b1 at cN ⊢;generalize iH n=b2 at cV ⊢
 go_enter Tryz.func111,Tryz.ntmps111
 by_cases h0:k=0
 ·subst h0;cases b1<;>cases b2 <;>
   (go_wp2_with (first
    | (go_at_call 178;refine (cN _).mono ?_;rintro e w1 ⟨rfl,rfl⟩)
    | (go_at_call 179;refine (cV _).mono ?_;rintro e w1 ⟨rfl,rfl⟩)))<;>go_ret<;>exact ⟨rfl,HB0.out⟩
 ·rw [if_neg h0]
  go_wp2_with fail
  go_ret
  exact ⟨rfl,HB0.out⟩
set_option maxHeartbeats 1000000 in
set_option maxRecDepth 100000 in
theorem Tryz.aiJ:Calls Tryz.prog 254 #[v] w fun e w'=>e = .returned (.bool (decide (t.args.length=0)&&(nameB t.name||bM t.name)))∧Below w.heap.size w w':=by
 obtain ⟨a,cap,rfl,hm,HB0,HC⟩:=Bf hv 42;clear hv HC;generalize t.name=n at *;generalize t.args.length=k at *;have cN:=Tryz.aai n;have cA:=Tryz.aew n;generalize bM n=b1 at cN ⊢;generalize nameB n=b2 at cA ⊢
 go_enter Tryz.func254,Tryz.ntmps254
 by_cases h0:k=0
 ·subst h0;cases b2 <;>
   (go_wp2_with (first
    | (go_at_call 178;refine (cN _).mono ?_;rintro e w1 ⟨rfl,rfl⟩)
    | (go_at_call 256;refine (cA _).mono ?_;rintro e w1 ⟨rfl,rfl⟩)))<;>go_ret<;>exact ⟨rfl,HB0.out⟩
 ·rw [decide_eq_false h0]
  go_wp2_with fail
  go_ret
  exact ⟨rfl,HB0.out⟩
set_option maxHeartbeats 1000000 in
set_option maxRecDepth 100000 in
theorem Tryz.ahl:Calls Tryz.prog 255 #[v] w fun e w'=>e = .returned (.bool (decide (t.args.length=0)&&iH t.name))∧Below w.heap.size w w':=by
 obtain ⟨a,cap,rfl,hm,HB0,HC⟩:=Bf hv 42;clear hv HC;generalize t.name=n at *;generalize t.args.length=k at *;have cV:=Tryz.adY n;generalize iH n=b2 at cV ⊢
 go_enter Tryz.func255,Tryz.ntmps255
 by_cases h0:k=0
 ·subst h0
  go_wp2_with (go_at_call 179;refine (cV _).mono ?_;rintro e w1 ⟨rfl,rfl⟩)
  go_ret
  exact ⟨rfl,HB0.out⟩
 ·rw [decide_eq_false h0]
  go_wp2_with fail
  go_ret
  exact ⟨rfl,HB0.out⟩
end
theorem D8 {l:List Tm} {p:Tm→Bool} {i:Nat} (h:i<l.length) (ht:(l.take i).all p=true) (hp:p l[i]=true):(l.take (i+1)).all p=true:=by
 rw [List.take_succ_eq_append_getElem h,List.all_append,ht];simp [hp]
theorem Jf {l:List Tm} {p:Tm→Bool} {i:Nat} (h:i<l.length) (hp:p l[i]=false):l.all p=false:=by
 rw [List.all_eq_false];exact ⟨_,List.getElem_mem h,by simp [hp]⟩
def ajN (P:Program) (f:FuncId) (r:Bool→Bool) (k:Nat):Prop:=∀ (g:Bool) (t:Tm) (w:World) (v:Value),RdD (fun b=>b<w.heap.size) w v (enT t)→Calls P f #[v,.int .i64 k,.bool g] w fun e w'=>e = .returned (.bool (bH (r g) k t))∧Below w.heap.size w w'
set_option maxHeartbeats 4000000 in
set_option maxRecDepth 100000 in
theorem Tryz.ZR:∀ (k:Nat),k≤1000→ajN Tryz.prog 177 (!·) k
 | 0,_,g,t,w,v,hv=>by
   obtain ⟨n,l⟩:=t;obtain ⟨a,cap,rfl,hm,HB0,HC⟩:=Bf hv 42;clear hv HC;rw [bH]
   go_enter Tryz.func177,Tryz.ntmps177
   go_wp2_with fail
   go_ret
   exact ⟨rfl,HB0.out⟩
 | k+1,hk,g,t,w,v,hv=>by
   have ih:=Tryz.ZR k (by omega);obtain ⟨n,l⟩:=t;obtain ⟨a,cap,rfl,hm,HB0,HC⟩:=Bf hv 42;have hw:bH (!g) (k+1) (.mk n l)=if l.length≤4 then (if l.length=0 then nameB n||bM n||(!g&&iH n) else l.all (bH (!g) k)&&nameB n) else false:=(by rw [bH]);generalize bH (!g) (k+1) (.mk n l)=r at hw ⊢
   replace hm:l.length≤9223372036854775807:=hm
   replace HB0:Hid (Below w.heap.size w (w.alloc (.cells #[.string ⟨n.toArray⟩,.slice a l.length cap] 42))):=HB0
   replace hv:RdD (fun b=>b<w.heap.size) w (.agg #[.string ⟨n.toArray⟩,.slice a l.length cap]) (enT (.mk n l)):=hv
   replace HC:Hid (l=[]∨∃ b o,a=some ⟨b,o,none⟩∧b<w.heap.size∧l.length≤cap∧cap≤maxLen∧∀ i (hi:i<l.length),∃ u0 u1,w.cell? ⟨b,o+i*2,none⟩=some u0∧w.cell? ⟨b,o+(i*2+1),none⟩=some u1∧RdD (fun b=>b<w.heap.size) w (.agg #[u0,u1]) (enT l[i])):=HC
   show Calls _ _ #[.agg #[.string ⟨n.toArray⟩,.slice a l.length cap],_,_] _ _;obtain ⟨W0,hW0⟩:∃ W,w.alloc (.cells #[.string ⟨n.toArray⟩,.slice a l.length cap] 42)=W:=⟨_,rfl⟩
   rw [hW0] at HB0;have hs0:W0.heap.size=w.heap.size+1:=(by rw [← hW0];simp);have y0:W0.heap[w.heap.size]?=some (.cells #[.string ⟨n.toArray⟩,.slice a l.length cap] 42 (0,0)):=(by rw [← hW0];exact heap_alloc_new w _);obtain ⟨x0,x1,_,_⟩:=aC y0;have hk1:(((k+1:Nat):Int))-1=(k:Nat):=(by omega);have hk0:¬ (((k+1:Nat):Int))<1:=(by omega);have hki:(((k+1:Nat):Int))≤1000:=(by omega);generalize (((k+1:Nat):Int))=kk at *;have cA:=Tryz.aew n;by_cases h0:l.length=0
   ·obtain rfl:=List.length_eq_zero_iff.1 h0;simp only [List.length_nil] at hW0 x1 y0 HB0 hv ⊢;rw [if_pos (by simp),if_pos (by rfl)] at hw;have cC:Hid (Calls Tryz.prog 254 #[.agg #[.string ⟨n.toArray⟩,.slice a 0 cap]] W0 fun e w'=>e = .returned (.bool (nameB n||bM n))∧Below W0.heap.size W0 w'):=hid ((Tryz.aiJ (.mk n []) W0 _ (aO HB0.out hv)).mono fun e w' ⟨he,hb⟩=>⟨by rw [he];simp [Tm.name,Tm.args],hb⟩);have cV:Hid (∀ W,Below W0.heap.size W0 W→Calls Tryz.prog 255 #[.agg #[.string ⟨n.toArray⟩,.slice a 0 cap]] W fun e w'=>e = .returned (.bool (iH n))∧Below W.heap.size W w'):=hid (fun W hb=>(Tryz.ahl (.mk n []) W _ (aO hb (aO HB0.out hv))).mono fun e w' ⟨he,hb⟩=>⟨by rw [he];simp [Tm.name,Tm.args],hb⟩);have hK:=hid (fun (W:World) (hb:Below W0.heap.size W0 W)=>aC ((hb.block w.heap.size (by omega)).trans y0))
    replace y0:=hid y0
    clear hv HC ih hm
    replace hw:=hid hw
    generalize (nameB n||bM n)=b1 at *;generalize iH n=b2 at *
    go_enter Tryz.func177,Tryz.ntmps177
    cases b1<;>cases g <;>
     (go_wp2_with (first
      | (go_at_call 254;refine cC.out.mono ?_;rintro e w1 ⟨rfl,hb1⟩;obtain ⟨k0,k1,_,_⟩:=hK.out w1 hb1;have hB1:=hid (HB0.out.trans (hb1.mono HB0.out.size));have cV1:=hid (cV.out w1 hb1);replace hb1:=hid hb1)
      | (go_at_call 255;refine cV1.out.mono ?_;rintro e w2 ⟨rfl,hb2⟩;replace hB1:=hid (hB1.out.trans (hb2.mono hB1.out.size));replace hb2:=hid hb2)))<;>go_ret<;>exact ⟨by rw [hw.out];simp,hB1.out⟩
   rw [if_neg h0] at hw
   go_enter Tryz.func177,Tryz.ntmps177
   cases hn:nameB n with
   | false=>
     rw [hn] at cA hw;have hw:=hid (show r=false by rw [hw];simp);clear hv HC ih
     go_wp2_with (go_at_call 256;refine (cA _).mono ?_;rintro e w1 ⟨rfl,rfl⟩)
     go_ret
     exact ⟨by rw [hw.out];rfl,HB0.out⟩
   | true=>
     rw [hn] at cA hw;simp only [Bool.and_true] at hw;by_cases h4:l.length≤4
     ·rw [if_pos h4] at hw;subst hw;have hK:=hid (fun (W:World) (hb:Below W0.heap.size W0 W)=>aC ((hb.block w.heap.size (by omega)).trans y0))
      replace y0:=hid y0
      go_wp2_with (go_at_call 256;refine (cA _).mono ?_;rintro e w1 ⟨rfl,rfl⟩)
      go_loopw [37] (fun vi wr=>∃ i:Nat,vi = .int .i64 i∧i≤l.length∧Hid ((l.take i).all (bH (!g) k)=true)∧Hid (Below w1.heap.size w1 wr)) (fun vi _=>l.length-(intOf vi).toNat)
      case atStart=>exact ⟨0,rfl,Nat.zero_le _,hid rfl,hid (Below.refl _ _)⟩
      case round=>
       obtain ⟨i,rfl,hi,hall,hB⟩:=hrel;obtain ⟨k0,k1,_,_⟩:=hK.out wr hB.out;by_cases hlt:i<l.length
       ·obtain ⟨b,o,rfl,hb,hlc,hcm,hcs⟩:=HC.out.resolve_left (fun h=>by rw [h] at hlt;simp at hlt);obtain ⟨u0,u1,c0,c1,hr⟩:=hcs i hlt;have hBB:=hid (HB0.out.trans (hB.out.mono HB0.out.size));have c0:=(hBB.out.cell (p:=⟨b,o+i*2,none⟩) hb).trans c0;have c1:=(hBB.out.cell (p:=⟨b,o+(i*2+1),none⟩) hb).trans c1;rw [← Nat.add_assoc] at c1;have cI:=hid (ih g l[i] wr _ (aO hBB.out hr));clear hcs hr;simp only [maxLen] at hcm;have hgood:bH (!g) k l[i]=true→Hid ((l.take (i+1)).all (bH (!g) k)=true):=fun h=>hid (D8 hlt hall.out h)
        have hbad:bH (!g) k l[i]=false→Hid (l.all (bH (!g) k)=false):=fun h=>hid (Jf hlt h)
        replace hgood:=hid hgood
        replace hbad:=hid hbad
        generalize bH (!g) k l[i]=x at *;have hlt2:=hid hlt;cases x with
        | true=>
          go_wp2_with (go_at_call 177;refine cI.out.mono ?_;rintro e w2 ⟨rfl,hb2⟩;replace hb2:=hid hb2)
          exact ⟨⟨i+1,by go_num,hlt2.out,hgood.out trivial,hid (hB.out.trans (hb2.out.mono hB.out.size))⟩,by have:=hlt2.out;simp [intOf];omega⟩
        | false=>
          go_wp2_with (go_at_call 177;refine cI.out.mono ?_;rintro e w2 ⟨rfl,hb2⟩;replace hb2:=hid hb2)
          go_ret
          exact ⟨by rw [(hbad.out trivial).out];rfl,hBB.out.trans (hb2.out.mono hBB.out.size)⟩
       ·obtain rfl:i=l.length:=by omega
        have hall:=hall.out;rw [List.take_length] at hall
        replace hall:=hid hall
        go_wp2_with fail
        go_ret
        exact ⟨by rw [hall.out];rfl,HB0.out.trans (hB.out.mono HB0.out.size)⟩
     ·rw [if_neg h4] at hw;subst hw;clear hv HC ih
      go_wp2_with (go_at_call 256;refine (cA _).mono ?_;rintro e w1 ⟨rfl,rfl⟩)
      go_ret
      exact ⟨rfl,HB0.out⟩
set_option maxHeartbeats 1000000 in
set_option maxRecDepth 100000 in
theorem Tryz.akm (t:Tm) (w:World) (v:Value) (hv:RdD (fun b=>b<w.heap.size) w v (enT t)):Calls Tryz.prog 108 #[v] w fun e w'=>e = .returned (.bool (bH false 4 t))∧Below w.heap.size w w':=by
 obtain ⟨a,cap,rfl,_,HB0,HC⟩:=Bf hv 42;have c:=Tryz.ZR 4 (by omega) true t _ _ (aO HB0.out hv);simp only [Bool.not_true] at c;generalize bH false 4 t=b at c ⊢;clear hv HC
 go_enter Tryz.func108,Tryz.ntmps108
 go_wp2_with (go_at_call 177;refine c.mono ?_;rintro e w1 ⟨rfl,hb1⟩)
 go_ret
 exact ⟨rfl,HB0.out.trans (hb1.mono HB0.out.size)⟩
set_option maxHeartbeats 4000000 in
set_option maxRecDepth 100000 in
theorem Tryz.wth:∀ (k:Nat),k≤1000→ajN Tryz.prog 105 id k
 | 0,_,g,t,w,v,hv=>by
   obtain ⟨n,l⟩:=t;obtain ⟨a,cap,rfl,hm,HB0,HC⟩:=Bf hv 42;clear hv HC;rw [bH]
   go_enter Tryz.func105,Tryz.ntmps105
   go_wp2_with fail
   go_ret
   exact ⟨rfl,HB0.out⟩
 | k+1,hk,g,t,w,v,hv=>by
   have ih:=Tryz.wth k (by omega);obtain ⟨n,l⟩:=t;obtain ⟨a,cap,rfl,hm,HB0,HC⟩:=Bf hv 42;have hw:bH g (k+1) (.mk n l)=if l.length≤4 then (if l.length=0 then nameB n||bM n||(g&&iH n) else l.all (bH g k)&&nameB n) else false:=(by rw [bH]);simp only [id];generalize bH g (k+1) (.mk n l)=r at hw ⊢
   replace hm:l.length≤9223372036854775807:=hm
   replace HB0:Hid (Below w.heap.size w (w.alloc (.cells #[.string ⟨n.toArray⟩,.slice a l.length cap] 42))):=HB0
   replace hv:RdD (fun b=>b<w.heap.size) w (.agg #[.string ⟨n.toArray⟩,.slice a l.length cap]) (enT (.mk n l)):=hv
   replace HC:Hid (l=[]∨∃ b o,a=some ⟨b,o,none⟩∧b<w.heap.size∧l.length≤cap∧cap≤maxLen∧∀ i (hi:i<l.length),∃ u0 u1,w.cell? ⟨b,o+i*2,none⟩=some u0∧w.cell? ⟨b,o+(i*2+1),none⟩=some u1∧RdD (fun b=>b<w.heap.size) w (.agg #[u0,u1]) (enT l[i])):=HC
   show Calls _ _ #[.agg #[.string ⟨n.toArray⟩,.slice a l.length cap],_,_] _ _;obtain ⟨W0,hW0⟩:∃ W,w.alloc (.cells #[.string ⟨n.toArray⟩,.slice a l.length cap] 42)=W:=⟨_,rfl⟩
   rw [hW0] at HB0;have hs0:W0.heap.size=w.heap.size+1:=(by rw [← hW0];simp);have y0:W0.heap[w.heap.size]?=some (.cells #[.string ⟨n.toArray⟩,.slice a l.length cap] 42 (0,0)):=(by rw [← hW0];exact heap_alloc_new w _);obtain ⟨x0,x1,_,_⟩:=aC y0;have hK:=hid (fun (W:World) (hb:Below W0.heap.size W0 W)=>aC ((hb.block w.heap.size (by omega)).trans y0))
   replace y0:=hid y0
   have hk1:(((k+1:Nat):Int))-1=(k:Nat):=(by omega);have hk0:¬ (((k+1:Nat):Int))<1:=(by omega);have hki:(((k+1:Nat):Int))≤1000:=(by omega);generalize (((k+1:Nat):Int))=kk at *;have cA:=hid (Tryz.nm n)
   go_enter Tryz.func105,Tryz.ntmps105
   by_cases h4:l.length≤4
   case neg=>
    rw [if_neg h4] at hw;subst hw;clear hv HC ih
    go_wp2_with fail
    go_ret
    exact ⟨rfl,HB0.out⟩
   rw [if_pos h4] at hw;by_cases h0:l.length=0
   ·rw [if_pos h0] at hw;obtain rfl:=List.length_eq_zero_iff.1 h0;simp only [List.length_nil] at hW0 x1 HB0 hK hv ⊢;have cN:=Tryz.isN n;have cV:=hid (Tryz.va n);clear hv HC ih hm h4 h0;generalize nameB n=b1 at *;generalize bM n=b2 at *;generalize iH n=b3 at *
    replace hw:=hid hw
    rcases (show b1=true∨(b1=false∧b2=true)∨(b1=false∧b2=false∧g=false)∨(b1=false∧b2=false∧g=true) by cases b1<;>cases b2<;>cases g<;>simp) with rfl | ⟨rfl,rfl⟩ | ⟨rfl,rfl,rfl⟩ | ⟨rfl,rfl,rfl⟩ <;>
     (go_wp2_with (first
      | (go_at_call 172;refine (cA.out _).mono ?_;rintro e w1 ⟨rfl,hb1⟩;obtain ⟨k0,k1,_,_⟩:=hK.out w1 hb1;have hB1:=hid (HB0.out.trans (hb1.mono HB0.out.size));replace hb1:=hid hb1)
      | (go_at_call 173;refine (cN _).mono ?_;rintro e w2 ⟨rfl,rfl⟩)
      | (go_at_call 161;refine (cV.out _).mono ?_;rintro e w2 ⟨rfl,hb2⟩;replace hB1:=hid (hB1.out.trans (hb2.mono hB1.out.size));replace hb2:=hid hb2)))<;>go_ret<;>exact ⟨by rw [hw.out];simp,hB1.out⟩
   rw [if_neg h0] at hw
   replace hw:=hid hw
   go_wp2_with fail
   go_loopw [40] (fun vi wr=>∃ i:Nat,vi = .int .i64 i∧i≤l.length∧Hid ((l.take i).all (bH g k)=true)∧Hid (Below W0.heap.size W0 wr)) (fun vi _=>l.length-(intOf vi).toNat)
   case atStart=>exact ⟨0,rfl,Nat.zero_le _,hid rfl,hid (Below.refl _ _)⟩
   case round=>
    obtain ⟨i,rfl,hi,hall,hB⟩:=hrel;obtain ⟨k0,k1,_,_⟩:=hK.out wr hB.out;by_cases hlt:i<l.length
    ·obtain ⟨b,o,rfl,hb,hlc,hcm,hcs⟩:=HC.out.resolve_left (fun h=>by rw [h] at hlt;simp at hlt);obtain ⟨u0,u1,c0,c1,hr⟩:=hcs i hlt;have hBB:=hid (HB0.out.trans (hB.out.mono HB0.out.size));have c0:=(hBB.out.cell (p:=⟨b,o+i*2,none⟩) hb).trans c0;have c1:=(hBB.out.cell (p:=⟨b,o+(i*2+1),none⟩) hb).trans c1;rw [← Nat.add_assoc] at c1;obtain ⟨⟨xx,rfl⟩,ux,nx,cx,rfl⟩:=JH hr;have cI:=hid (fun (W:World) (h:Below wr.heap.size wr W)=>ih g l[i] W _ (aO h (aO hBB.out hr)));clear hcs hr;simp only [maxLen,id] at hcm cI;have hgood:bH g k l[i]=true→Hid ((l.take (i+1)).all (bH g k)=true):=fun h=>hid (D8 hlt hall.out h)
     have hbad:bH g k l[i]=false→Hid (l.all (bH g k)=false):=fun h=>hid (Jf hlt h)
     replace hgood:=hid hgood
     replace hbad:=hid hbad
     generalize bH g k l[i]=x at *;have hlt2:=hid hlt;have hBa:=hid (fun o=>(Below.refl wr.heap.size wr).alloc (Nat.le_refl _) o);cases x with
     | true=>
       go_wp2_with (go_at_call 105;refine (cI.out _ (hBa.out _)).mono ?_;rintro e w2 ⟨rfl,hb2⟩;replace hb2:=hid hb2)
       exact ⟨⟨i+1,by go_num,hlt2.out,hgood.out trivial,hid (hB.out.trans (((hBa.out _).trans (hb2.out.mono (hBa.out _).size)).mono hB.out.size))⟩,by have:=hlt2.out;simp [intOf];omega⟩
     | false=>
       go_wp2_with (go_at_call 105;refine (cI.out _ (hBa.out _)).mono ?_;rintro e w2 ⟨rfl,hb2⟩;replace hb2:=hid hb2)
       go_ret
       exact ⟨by rw [hw.out,(hbad.out trivial).out];rfl,hBB.out.trans (((hBa.out _).trans (hb2.out.mono (hBa.out _).size)).mono hBB.out.size)⟩
    ·obtain rfl:i=l.length:=by omega
     have hall:=hall.out;rw [List.take_length] at hall;have hw:=hid (hw.out.trans (by rw [hall];rfl:_=nameB n))
     replace hall:=hid hall
     go_wp2_with (go_at_call 172;refine (cA.out _).mono ?_;rintro e w1 ⟨rfl,hb1⟩;replace hb1:=hid hb1)
     go_ret
     exact ⟨by rw [hw.out];rfl,(HB0.out.trans (hB.out.mono HB0.out.size)).trans (hb1.out.mono (by have:=HB0.out.size;have:=hB.out.size;omega))⟩
set_option maxHeartbeats 1000000 in
set_option maxRecDepth 100000 in
theorem Tryz.ahz (t:Tm) (w:World) (v:Value) (hv:RdD (fun b=>b<w.heap.size) w v (enT t)):Calls Tryz.prog 54 #[v] w fun e w'=>e = .returned (.bool (bH false 4 t))∧Below w.heap.size w w':=by
 obtain ⟨a,cap,rfl,_,HB0,HC⟩:=Bf hv 42;have c:=Tryz.wth 4 (by omega) false t _ _ (aO HB0.out hv);simp only [id] at c;generalize bH false 4 t=b at c ⊢;clear hv HC
 go_enter Tryz.func54,Tryz.ntmps54
 go_wp2_with (go_at_call 105;refine c.mono ?_;rintro e w1 ⟨rfl,hb1⟩)
 go_ret
 exact ⟨rfl,HB0.out.trans (hb1.mono HB0.out.size)⟩
end Go.Proofs
