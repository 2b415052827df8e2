/- The abstract values (pure data D, machine values V), what they say of a world, and the states of the calculus. -/
import Derived.Orders
import Derived.Test.YtbhfbliodeagmaaGreatDoorGlOne
import Derived.Laws.AppendOwn
import Derived.Below
import Derived.Laws.Cells
import Derived.Laws.Tables
import Derived.Laws.MakeOwn
import Derived.ChangeKeysEq
import Derived.Laws.Slices
import Derived.Laws.Strings
import Derived.Laws.StructEq
set_option linter.all false
namespace Go.Abs
open Go Go.RowKit
inductive RdD (ok:Nat→Prop) (w:World):Value→D→Prop
 | bool (b:Bool):RdD ok w (.bool b) (.bool b)
 | int (k:IntKind) (n:Int):RdD ok w (.int k n) (.int k n)
 | str (s:List UInt8):s.length≤maxLen→RdD ok w (.string ⟨s.toArray⟩) (.str s)
 | agg (vs:Array Value) (cs:List D):vs.size=cs.length→(∀ (i:Nat) v c,vs[i]?=some v→cs[i]?=some c→RdD ok w v c) →
   (∀ (i:Nat) v c,vs[i]?=some v→cs[i]?=some c→Value.oneCell' v=true∧D.one c=true)→RdD ok w (.agg vs) (.agg cs)
 | lF (a:Option Addr):RdD ok w (.slice a 0 0) (.list [])
 | lst (a:Addr) (cap sz:Nat) (xs:List D) (us:Nat→Nat→Value):ok a.block→a.spot=none→xs.length≤cap→cap≤maxLen→0<sz →
   (∀ (i:Nat) x,xs[i]?=some x→(D.cells x).length=sz) →
   (∀ (i:Nat) x (j:Nat) c,xs[i]?=some x→(D.cells x)[j]?=some c→w.cell? ⟨a.block,a.off+(i*sz+j),none⟩=some (us i j)∧Value.oneCell' (us i j)=true∧D.one c=true) →
   (∀ (i:Nat) x (j:Nat) c,xs[i]?=some x→(D.cells x)[j]?=some c→RdD ok w (us i j) c) →
   RdD ok w (.slice (some a) xs.length cap) (.list xs)
 | ref (b o off:Nat) (cs:List D) (us:Nat→Value):ok b →
   (∀ (j:Nat) c,cs[j]?=some c→w.cell? ⟨b,o+j,none⟩=some (us j)∧(us j).oneCell'=true∧D.one c=true) →
   (∀ (j:Nat) c,cs[j]?=some c→RdD ok w (us j) c) →
   RdD ok w (.pointer (some ⟨b,o+off,none⟩)) (.ref cs off)
 | dN:RdD ok w (.pointer none) .dN
 | Vh:RdD ok w (.map none) (.map [])
 | map (r clock:Nat) (ents:Array MapEntry) (es:List (D×D)):ok r→w.heap[r]?=some (.map ents clock)→ents.size=es.length →
   (∀ (i:Nat) (m:MapEntry) (e:D×D),ents[i]?=some m→es[i]?=some e→RdD ok w m.key e.1) →
   (∀ (i:Nat) (m:MapEntry) (e:D×D),ents[i]?=some m→es[i]?=some e→RdD ok w m.val e.2) →
   RdD ok w (.map (some r)) (.map es)
 | fn (f:FuncId) (vs:Array Value) (cs:List D):vs.size=cs.length→(∀ (i:Nat) v c,vs[i]?=some v→cs[i]?=some c→RdD ok w v c)→RdD ok w (.func (.func f) #[] vs) (.fn f cs)
def glD (l:List D):D := .ref l 0
def GOK (ok:Nat→Prop) (w:World):Prop:=∀ g,gl g≠[]→RdD ok w (.pointer (some ⟨g,0,none⟩)) (glD (gl g))
def Keeps (ok:Nat→Prop) (w w':World):Prop:=∀ b,ok b→w'.heap[b]?=w.heap[b]?
theorem cell_of_heap {w w':World} {a:Addr} (h:w'.heap[a.block]?=w.heap[a.block]?):w'.cell? a=w.cell? a:=World.cell?_of_block h
theorem RdD.mono {ok ok':Nat→Prop} {w w':World} (hk:Keeps ok w w') (ho:∀ b,ok b→ok' b) {v:Value} {d:D} (h:RdD ok w v d):RdD ok' w' v d:=by
 induction h with
 | bool b=>exact .bool b
 | int k n=>exact .int k n
 | str s hs=>exact .str s hs
 | agg vs cs hl h1 h2 ih=>exact .agg vs cs hl ih h2
 | lF a=>exact .lF a
 | lst a cap sz xs us h1 h2 h3 h4 h5 h6 h7 h8 ih=>
   exact .lst a cap sz xs us (ho _ h1) h2 h3 h4 h5 h6 (fun i x j c hx hc=>by rw [cell_of_heap (w:=w) (a:=⟨a.block,a.off+(i*sz+j),none⟩) (hk a.block h1)];exact h7 i x j c hx hc) ih
 | ref b o off cs us h1 h2 h3 ih=>exact .ref b o off cs us (ho _ h1) (fun j c hc=>by rw [cell_of_heap (w:=w) (a:=⟨b,o+j,none⟩) (hk b h1)];exact h2 j c hc) ih
 | dN=>exact .dN
 | Vh=>exact .Vh
 | map r clock ents es h1 h2 h3 h4 h5 ih1 ih2=>exact .map r clock ents es (ho _ h1) ((hk r h1).trans h2) h3 ih1 ih2
 | fn f vs cs hl h ih=>exact .fn f vs cs hl ih
theorem RdD.oneCell {ok:Nat→Prop} {w:World} {v:Value} {d:D} (h:RdD ok w v d):v.oneCell'=d.one:=by
 cases h<;>rfl
theorem GOK.mono {ok ok':Nat→Prop} {w w':World} (hk:Keeps ok w w') (ho:∀ b,ok b→ok' b) (h:GOK ok w):GOK ok' w':=fun g hg=>(h g hg).mono hk ho
inductive V where
 | d (x:D)
 | aj
 | emp
 | ptr (id off:Nat)
 | sl (id sz off len:Nat)
 | ael (id sz i off:Nat)
 | map (id:Nat)
 | rsl (id len:Nat)
 | jI (id i:Nat)
 | func (fn:Fn) (first captured:List V)
 | agg (cs:List V)
 | tuple (vs:List V)
 | undef
 | any
 deriving Inhabited
inductive RdV (β:Nat→Value) (u:Nat→Prop) (ok:Nat→Prop) (w:World):Value→V→Prop
 | any (v:Value):RdV β u ok w v .any
 | undef:RdV β u ok w Go.undef .undef
 | d (v:Value) (x:D):RdD ok w v x→RdV β u ok w v (.d x)
 | aj:RdV β u ok w (.slice none 0 0) .aj
 | emp (a:Option Addr):RdV β u ok w (.slice a 0 0) .emp
 | ptr (id off b:Nat):u id→β id = .pointer (some ⟨b,0,none⟩)→RdV β u ok w (.pointer (some ⟨b,off,none⟩)) (.ptr id off)
 | sl (id sz off len n cap:Nat) (a0 a:Option Addr):u id→β id = .slice a0 n cap→off+len≤cap→cap≤maxLen →
   (off<cap→∃ b o,a0=some ⟨b,o,none⟩∧a=some ⟨b,o+off*sz,none⟩)→RdV β u ok w (.slice a len (cap-off)) (.sl id sz off len)
 | ael (id sz i off b o n cap:Nat):u id→β id = .slice (some ⟨b,o,none⟩) n cap→RdV β u ok w (.pointer (some ⟨b,o+(i*sz+off),none⟩)) (.ael id sz i off)
 | map (id r:Nat):u id→β id = .map (some r)→RdV β u ok w (.map (some r)) (.map id)
 | rsl (id len cap:Nat) (a:Option Addr):u id→β id = .slice a len cap→(0<len→∃ b o,a=some ⟨b,o,none⟩)→RdV β u ok w (.slice a len cap) (.rsl id len)
 | jI (id i b o n cap:Nat):u id→β id = .slice (some ⟨b,o,none⟩) n cap→RdV β u ok w (.pointer (some ⟨b,o+i,none⟩)) (.jI id i)
 | func (fn:Fn) (fs cs:Array Value) (f c:List V):fs.size=f.length→cs.size=c.length →
   (∀ (i:Nat) v x,fs[i]?=some v→f[i]?=some x→RdV β u ok w v x)→(∀ (i:Nat) v x,cs[i]?=some v→c[i]?=some x→RdV β u ok w v x)→RdV β u ok w (.func fn fs cs) (.func fn f c)
 | agg (vs:Array Value) (cs:List V):vs.size=cs.length→(∀ (i:Nat) v c,vs[i]?=some v→cs[i]?=some c→RdV β u ok w v c) →
   (∀ (i:Nat) v,vs[i]?=some v→Value.oneCell' v=true)→RdV β u ok w (.agg vs) (.agg cs)
 | tuple (vs:Array Value) (cs:List V):vs.size=cs.length→(∀ (i:Nat) v c,vs[i]?=some v→cs[i]?=some c→RdV β u ok w v c)→RdV β u ok w (.tuple vs) (.tuple cs)
theorem RdV.mono {β β':Nat→Value} {u u' ok ok':Nat→Prop} {w w':World} (hb:∀ i,u i→β' i=β i) (hu:∀ i,u i→u' i) (hk:Keeps ok w w') (ho:∀ b,ok b→ok' b)
  {v:Value} {x:V} (h:RdV β u ok w v x):RdV β' u' ok' w' v x:=by
 induction h with
 | any v=>exact .any v
 | undef=>exact .undef
 | d v x h=>exact .d v x (h.mono hk ho)
 | aj=>exact .aj
 | emp a=>exact .emp a
 | ptr id off b h1 h2=>exact .ptr id off b (hu _ h1) ((hb _ h1).trans h2)
 | sl id sz off len n cap a0 a h1 h2 h3 h5 h4=>exact .sl id sz off len n cap a0 a (hu _ h1) ((hb _ h1).trans h2) h3 h5 h4
 | ael id sz i off b o n cap h1 h2=>exact .ael id sz i off b o n cap (hu _ h1) ((hb _ h1).trans h2)
 | map id r h1 h2=>exact .map id r (hu _ h1) ((hb _ h1).trans h2)
 | rsl id len cap a h1 h2 h3=>exact .rsl id len cap a (hu _ h1) ((hb _ h1).trans h2) h3
 | jI id i b o n cap h1 h2=>exact .jI id i b o n cap (hu _ h1) ((hb _ h1).trans h2)
 | func fn fs cs f c h1 h2 h3 h4 ih1 ih2=>exact .func fn fs cs f c h1 h2 ih1 ih2
 | agg vs cs h1 h2 h3 ih=>exact .agg vs cs h1 ih h3
 | tuple vs cs h1 h2 ih=>exact .tuple vs cs h1 ih
abbrev Key:=Nat×Nat
inductive Res where
 | cell (v:V)
 | arr (sz:Nat) (xs:List D)
 | map (es:List (D×D))
 | rows (sz:Nat) (rs:List (List D)) (out:Option (Nat×Nat))
 deriving Inhabited
def aN:Value→Option Nat
 | .pointer (some a)=>some a.block
 | .slice (some a) _ (_+1)=>some a.block
 | .map (some r)=>some r
 | _=>none
def dI (ok:Nat→Prop) (w:World) (v:Value) (sz:Nat) (xs:List D):Prop:=
 ∃ a cap,v = .slice a xs.length cap∧xs.length≤cap∧cap≤maxLen∧0<sz∧(∀ (i:Nat) x,xs[i]?=some x→(D.cells x).length=sz) ∧
   (0<cap→∃ b o cur T,a=some ⟨b,o,none⟩∧w.heap[b]?=some (.cells cur T (0,0))∧o+cap*sz≤cur.size ∧
    ∀ (i:Nat) x (j:Nat) c,xs[i]?=some x→(D.cells x)[j]?=some c→∃ u,cur[o+(i*sz+j)]?=some u∧RdD ok w u c∧u.oneCell'=true∧D.one c=true)
def Born (ents:Array MapEntry) (clock:Nat):Prop:=(∀ m∈ents.toList,m.born<clock)∧(ents.toList.map (·.born)).Nodup
def Qe (ok:Nat→Prop) (w:World) (v:Value) (es:List (D×D)):Prop:=
 ∃ r ents clock,v = .map (some r)∧w.heap[r]?=some (.map ents clock)∧ents.size=es.length ∧
   (∀ (i:Nat) (m:MapEntry) (e:D×D),ents[i]?=some m→es[i]?=some e→RdD ok w m.key e.1∧RdD ok w m.val e.2)∧Born ents clock
def jW (out:Option (Nat×Nat)) (i:Nat):Bool:=match out with | some (j,_)=>Nat.beq i j | none=>false
def OwnRows (β:Nat→Value) (ok:Nat→Prop) (w:World) (v:Value) (sz:Nat) (rs:List (List D)) (out:Option (Nat×Nat)):Prop:=
 ∃ a cap,v = .slice a rs.length cap∧rs.length≤cap∧cap≤maxLen∧0<sz ∧
   (0<cap→∃ b o cur T,a=some ⟨b,o,none⟩∧w.heap[b]?=some (.cells cur T (0,0))∧o+cap≤cur.size ∧
    (∀ (i:Nat) xs,rs[i]?=some xs→∃ u,cur[o+i]?=some u∧u.oneCell'=true∧(jW out i=false→dI ok w u sz xs∧aN u≠some b)∧(∀ id,out=some (i,id)→u=β id)) ∧
    ∀ (i j:Nat) u u' c,i<rs.length→j<rs.length→jW out i=false→jW out j=false→cur[o+i]?=some u→cur[o+j]?=some u'→aN u=some c→aN u'=some c→i=j)
def Own (β:Nat→Value) (u ok:Nat→Prop) (w:World) (k:Key):Res→Prop
 | .cell x=>∃ b c T v,β k.1 = .pointer (some ⟨b,0,none⟩)∧w.heap[b]?=some (.cells c T (0,0))∧c[k.2]?=some v∧v.oneCell'=true∧RdV β u ok w v x
 | .arr sz xs=>k.2=0∧dI ok w (β k.1) sz xs
 | .map es=>k.2=0∧Qe ok w (β k.1) es
 | .rows sz rs out=>k.2=0∧OwnRows β ok w (β k.1) sz rs out∧∀ i id,out=some (i,id)→u id
def akh (w:World) (v:Value) (n:Nat) (out:Option (Nat×Nat)) (b:Nat):Prop:=
 ∃ a cap len i u,v = .slice (some a) len (cap+1)∧i<n∧jW out i=false∧w.cell? ⟨a.block,a.off+i,none⟩=some u∧aN u=some b
def Blk (β:Nat→Value) (w:World) (k:Key) (r:Res) (b:Nat):Prop:=
 aN (β k.1)=some b∨match r with
  | .rows _ rs out=>akh w (β k.1) rs.length out b
  | _=>False
theorem dI.mono {ok ok':Nat→Prop} {w w':World} {v:Value} {sz:Nat} {xs:List D} (hk:Keeps ok w w') (ho:∀ b,ok b→ok' b) (hblk:∀ b,aN v=some b→w'.heap[b]?=w.heap[b]?) (h:dI ok w v sz xs):dI ok' w' v sz xs:=by
 obtain ⟨a,cap,h0,h1,h2,h3,h4,h5⟩:=h
 refine ⟨a,cap,h0,h1,h2,h3,h4,fun hc=>?_⟩
 obtain ⟨b,o,cur,T,ha,hh,hs,hcells⟩:=h5 hc
 refine ⟨b,o,cur,T,ha,(hblk b ?_).trans hh,hs,fun i x j c hx hcx=>?_⟩
 ·rw [h0,ha];cases cap with
  | zero=>omega
  | succ n=>rfl
 ·obtain ⟨u',e1,e2,e3,e4⟩:=hcells i x j c hx hcx
  exact ⟨u',e1,e2.mono hk ho,e3,e4⟩
theorem Own.mono {β β':Nat→Value} {u u' ok ok':Nat→Prop} {w w':World} {k:Key} {r:Res} (hbk:β' k.1=β k.1) (hb:∀ i,u i→β' i=β i) (hu:∀ i,u i→u' i) (hk:Keeps ok w w') (ho:∀ b,ok b→ok' b)
  (hblk:∀ b,Blk β w k r b→w'.heap[b]?=w.heap[b]?) (h:Own β u ok w k r):Own β' u' ok' w' k r:=by
 cases r with
 | cell x=>
   obtain ⟨b,c,T,v,h1,h2,h3,h4,h5⟩:=h
   exact ⟨b,c,T,v,hbk.trans h1,(hblk b (.inl (by rw [h1];rfl))).trans h2,h3,h4,h5.mono hb hu hk ho⟩
 | arr sz xs=>
   show k.2=0∧dI ok' w' (β' k.1) sz xs
   rw [hbk]
   exact ⟨h.1,h.2.mono hk ho (fun b hb=>hblk b (.inl hb))⟩
 | map es=>
   show k.2=0∧Qe ok' w' (β' k.1) es
   rw [hbk]
   obtain ⟨hk0,r,ents,clock,h0,h1,h2,h3,h4⟩:=h
   refine ⟨hk0,r,ents,clock,h0,(hblk r (.inl (by rw [h0];rfl))).trans h1,h2,fun i m e hm he=>⟨(h3 i m e hm he).1.mono hk ho,(h3 i m e hm he).2.mono hk ho⟩,h4⟩
 | rows sz rs out=>
   show k.2=0∧OwnRows β' ok' w' (β' k.1) sz rs out∧_
   rw [hbk]
   obtain ⟨hk0,⟨a,cap,h0,h1,h2,h3,h5⟩,hout⟩:=h
   refine ⟨hk0,⟨a,cap,h0,h1,h2,h3,fun hc=>?_⟩,fun i id ho=>hu id (hout i id ho)⟩
   obtain ⟨b,o,cur,T,ha,hh,hs,hcells,hdis⟩:=h5 hc
   have hbo:aN (β k.1)=some b:=by rw [h0,ha];cases cap with
    | zero=>omega
    | succ n=>rfl
   refine ⟨b,o,cur,T,ha,(hblk b (.inl hbo)).trans hh,hs,fun i xs hx=>?_,hdis⟩
   obtain ⟨v,e1,e2,e3,e4⟩:=hcells i xs hx
   refine ⟨v,e1,e2,fun hi=>⟨(e3 hi).1.mono hk ho (fun c hcb=>hblk c (.inr ?_)),(e3 hi).2⟩,fun id hid=>(e4 id hid).trans (hb id (hout i id hid)).symm⟩
   exact ⟨⟨b,o,none⟩,cap-1,rs.length,i,v,by rw [h0,ha,Nat.sub_add_cancel hc],(List.getElem?_eq_some_iff.1 hx).1,hi,by rw [cell_of_row w b (o+i) cur T (0,0) hh];exact e1,hcb⟩
theorem Blk.mono {β β':Nat→Value} {w w':World} {k:Key} {r:Res} (hbk:β' k.1=β k.1) (hblk:∀ b,Blk β w k r b→w'.heap[b]?=w.heap[b]?) {b:Nat} (h:Blk β' w' k r b):Blk β w k r b:=by
 rcases h with h | h
 ·exact .inl (hbk ▸ h)
 ·cases r with
  | rows sz rs out=>
    obtain ⟨a,cap,len,i,v,h1,h2,h3,h4,h5⟩:=h
    have h1':β k.1 = .slice (some a) len (cap+1):=hbk ▸ h1
    refine .inr ⟨a,cap,len,i,v,h1',h2,h3,?_,h5⟩
    rw [← cell_of_heap (w:=w) (a:=⟨a.block,a.off+i,none⟩) (hblk a.block (.inl (by rw [h1'];rfl)))]
    exact h4
  | _=>exact h.elim
structure S where
 env:Nat→V
 hp:Key→Option Res
 used:Nat→Prop
structure Frame (wr:Nat→Nat→Prop) (w w':World):Prop where
 os:w'.os=w.os
 tape:w'.tape=w.tape
 output:w'.output=w.output
 size:w.heap.size≤w'.heap.size
 blk:∀ b,b<w.heap.size→(∀ o,¬ wr b o)→w'.heap[b]?=w.heap[b]?
 cel:∀ b c T fz,w.heap[b]?=some (.cells c T fz)→∃ c',w'.heap[b]?=some (.cells c' T fz)∧c'.size=c.size∧∀ o,¬ wr b o→c'[o]?=c[o]?
theorem Frame.refl (wr:Nat→Nat→Prop) (w:World):Frame wr w w:=⟨rfl,rfl,rfl,Nat.le_refl _,fun _ _ _=>rfl,fun _ c _ _ h=>⟨c,h,rfl,fun _ _=>rfl⟩⟩
structure Ctx where
 w0:World
 ok0:Nat→Prop
 wr:Nat→Nat→Prop
 nt:Nat
 β0:Nat→Value
 u0:List Nat
structure RelB (C:Ctx) (β:Nat→Value) (ok:Nat→Prop) (s:S) (a:Act) (w:World):Prop where
 defers:a.defers=[]
 jg:a.tmps.size=C.nt
 env:∀ t,RdV β s.used ok w (a.tmps.getD t undef) (s.env t)
 heap:∀ k r,s.hp k=some r→s.used k.1∧Own β s.used ok w k r
 sep:∀ k r b,s.hp k=some r→Blk β w k r b→¬ ok b∧b<w.heap.size∧(b<C.w0.heap.size→match r with | .cell _=>k.1∈C.u0∧C.wr b k.2 | _=>∀ o,C.wr b o)
 inj:∀ k k' r r' b,s.hp k=some r→s.hp k'=some r'→Blk β w k r b→Blk β w k' r' b→k.1=k'.1
 okb:∀ b,ok b→b<w.heap.size
 ok0:∀ b,C.ok0 b→ok b
 okn:∀ b,ok b→C.ok0 b∨C.w0.heap.size≤b∨∀ o,C.wr b o
 frame:Frame C.wr C.w0 w
 keep:∀ i,i∈C.u0→s.used i∧β i=C.β0 i
 glob:GOK ok w
def Rel (C:Ctx) (s:S) (a:Act) (w:World):Prop:=∃ β ok,RelB C β ok s a w
theorem Rel.drew {C:Ctx} {s:S} {a:Act} {w:World} (h:Rel C s a w):Rel C s a w.drew:=by
 obtain ⟨β,ok,h⟩:=h
 have hk:Keeps ok w w.drew:=fun _ _=>rfl
 exact ⟨β,ok,h.defers,h.jg,fun t=>(h.env t).mono (fun _ _=>rfl) (fun _ h=>h) hk (fun _ h=>h),
  fun k r hr=>⟨(h.heap k r hr).1,(h.heap k r hr).2.mono rfl (fun _ _=>rfl) (fun _ h=>h) hk (fun _ h=>h) (fun _ _=>rfl)⟩,
  h.sep,h.inj,h.okb,h.ok0,h.okn,⟨h.frame.os,h.frame.tape,h.frame.output,h.frame.size,h.frame.blk,h.frame.cel⟩,h.keep,h.glob.mono hk fun _ h=>h⟩
def jX (h:Key→Option Res):List (Key×Option Res)→Key→Option Res
 | [],k=>h k
 | (k',r)::l,k=>if k'=k then r else jX h l k
def S.apply (s:S) (dst:Option Tmp) (v:V) (δ:List (Key×Option Res)) (news:List Nat):S:=
 {env:=fun t=>if dst=some t then v else s.env t
  hp:=jX s.hp δ
  used:=fun i=>s.used i∨i∈news }
theorem dP (h:Key→Option Res) (δ:List (Key×Option Res)) (k:Key) :
  (jX h δ k=h k∧∀ r,(k,r)∉δ)∨∃ r,(k,r)∈δ∧jX h δ k=r:=by
 induction δ with
 | nil=>exact .inl ⟨rfl,fun r hr=>by cases hr⟩
 | cons x l ih=>
   obtain ⟨k',r'⟩:=x
   by_cases e:k'=k
   ·exact .inr ⟨r',by simp [e],by simp [jX,e]⟩
   ·rcases ih with ⟨h1,h2⟩ | ⟨r,h1,h2⟩
    ·exact .inl ⟨by simp [jX,e,h1],fun r hr=>by
      rcases List.mem_cons.1 hr with hr | hr
      ·exact e (by cases hr;rfl)
      ·exact h2 r hr⟩
    ·exact .inr ⟨r,List.mem_cons_of_mem _ h1,by simp [jX,e,h2]⟩
def cellC:Value→V
 | .bool b => .d (.bool b)
 | .int k n => .d (.int k n)
 | .string s => .d (.str s.data.toList)
 | .slice none 0 0 => .aj
 | .pointer none => .d .dN
 | .map none => .d (.map [])
 | _ => .any
def dOf:V→Option D
 | .d x=>some x
 | _=>none
def abj:List V→Option (List D)
 | []=>some []
 | x::xs=>match dOf x,abj xs with
   | some d,some ds=>some (d::ds)
   | _,_=>none
def CY (cs:List V):V:=
 match abj cs with
 | some ds => .d (.agg ds)
 | none => .agg cs
def Et:Value→V
 | .agg cs=>CY (cs.toList.map cellC)
 | v=>cellC v
def glK (l:List D) (K:V→Prop):Prop:=match l with | []=>K .any | a::l=>K (.d (glD (a::l)))
def glV (l:List D):V:=match l with | [] => .any | a::l => .d (glD (a::l))
theorem acD {l:List D} {K:V→Prop}:glK l K↔K (glV l):=by cases l<;>exact Iff.rfl
def S.ev (s:S):Operand→V
 | .tmp t=>s.env t
 | .const v=>Et v
 | .global g=>glV (gl g)
 | .func f => .func (.func f) [] []
def vH:Value→Bool
 | .string s=>decide (s.data.toList.length≤maxLen)
 | .agg _ | .tuple _=>false
 | _=>true
def okC:Value→Bool
 | .agg cs=>cs.toList.all vH
 | v=>vH v||v matches .tuple _
theorem wL (β:Nat→Value) (u ok:Nat→Prop) (w:World) (v:Value) (h:vH v=true):RdV β u ok w v (cellC v):=by
 cases v with
 | bool b=>exact .d _ _ (.bool b)
 | int k n=>exact .d _ _ (.int k n)
 | string s=>exact .d _ _ (by have:=RdD.str (ok:=ok) (w:=w) s.data.toList (by simpa [vH] using h);simpa using this)
 | slice a len cap=>
   unfold cellC
   split<;>first | exact .aj | exact .any _ | simp_all
   all_goals first | exact .aj | exact .any _
 | pointer a=>cases a with
   | none=>exact .d _ _ .dN
   | some a=>exact .any _
 | map r=>cases r with
   | none=>exact .d _ _ .Vh
   | some r=>exact .any _
 | _=>exact .any _
theorem Ik:∀ {cs:List V} {ds:List D},abj cs=some ds→cs=ds.map V.d
 | [],ds,h=>by simp [abj] at h;subst h;rfl
 | x::xs,ds,h=>by
   unfold abj at h
   split at h
   ·rename_i d ds' h1 h2
    cases x<;>simp [dOf] at h1
    subst h1
    have:=Ik h2
    simp at h
    subst h
    simp [this]
   ·cases h
theorem qG {β:Nat→Value} {u ok:Nat→Prop} {w:World} {vs:Array Value} {cs:List V} (hl:vs.size=cs.length)
  (h:∀ (i:Nat) v c,vs[i]?=some v→cs[i]?=some c→RdV β u ok w v c) (h1:∀ (i:Nat) v,vs[i]?=some v→v.oneCell'=true):RdV β u ok w (.agg vs) (CY cs):=by
 unfold CY
 split
 ·rename_i ds hd
  have e:=Ik hd
  subst e
  have hr:∀ (i:Nat) v c,vs[i]?=some v→ds[i]?=some c→RdD ok w v c:=fun i v c hv hc=>by
   have:=h i v (.d c) hv (by simp [hc])
   cases this;assumption
  exact .d _ _ (.agg vs ds (by simpa using hl) hr fun i v c hv hc=>⟨h1 i v hv,by rw [← (hr i v c hv hc).oneCell];exact h1 i v hv⟩)
 ·exact .agg vs cs hl h h1
theorem yJ (β:Nat→Value) (u ok:Nat→Prop) (w:World) (v:Value) (h:okC v=true):RdV β u ok w v (Et v):=by
 cases v with
 | agg cs=>
   have h':∀ v∈cs.toList,vH v=true:=List.all_eq_true.1 h
   refine qG (by simp) (fun i v c hv hc=>?_) (fun i v hv=>?_)
   ·simp [hv] at hc
    subst hc
    exact wL _ _ _ _ _ (h' v (by have:=Array.mem_of_getElem? hv;simpa using this))
   ·have:=h' v (by have:=Array.mem_of_getElem? hv;simpa using this)
    cases v<;>simp_all [vH,Value.oneCell']
 | tuple vs=>exact .any _
 | _=>exact wL _ _ _ _ _ (by simpa [okC] using h)
def okO:Operand→Bool
 | .const v=>okC v
 | _=>true
theorem RelB.eval {C:Ctx} {β:Nat→Value} {ok:Nat→Prop} {s:S} {a:Act} {w:World} (h:RelB C β ok s a w) (x:Operand) (hx:okO x=true) :
  RdV β s.used ok w (a.eval x) (s.ev x):=by
 cases x with
 | tmp t=>exact h.env t
 | const v=>exact yJ _ _ _ _ v hx
 | global g=>
   show RdV _ _ _ _ (.pointer (some ⟨g,0,none⟩)) (glV (gl g))
   have hg:=h.glob g
   generalize gl g=l at hg ⊢
   cases l with
   | nil=>exact .any _
   | cons a l=>exact .d _ _ (hg (by simp))
 | func f=>exact .func (.func f) #[] #[] [] [] rfl rfl (fun i v x hv=>by simp at hv) (fun i v x hv=>by simp at hv)
theorem YS {a:Act} {dst:Option Tmp} {v:Value} {nt:Nat} (hs:a.tmps.size=nt) (hd:∀ d,dst=some d→d<nt) (t:Nat) :
  (a.put dst v).tmps.getD t undef=if dst=some t then v else a.tmps.getD t undef:=by
 cases dst with
 | none=>simp [Act.put]
 | some d=>
   have:=hd d rfl
   by_cases e:d=t
   ·subst e;simp [Act.put,hs,this]
   ·simp [Act.put,e]
theorem size_put (a:Act) (dst:Option Tmp) (v:Value):(a.put dst v).tmps.size=a.tmps.size:=by
 cases dst<;>simp [Act.put]
theorem P5 (a:Act) (dst:Option Tmp) (v:Value):(a.put dst v).defers=a.defers:=by
 cases dst<;>rfl
theorem RelB.step {C:Ctx} {β β':Nat→Value} {ok ok':Nat→Prop} {s:S} {a:Act} {w w':World} (h:RelB C β ok s a w) {dst:Option Tmp} {v:Value} {x:V}
  {δ:List (Key×Option Res)} {news:List Nat}
  (hd:∀ d,dst=some d→d<C.nt)
  (hβ:∀ i,s.used i→β' i=β i) (hok:∀ b,ok b→ok' b) (hk:Keeps ok w w')
  (hv:RdV β' (fun i=>s.used i∨i∈news) ok' w' v x)
  (hold:∀ k r,s.hp k=some r→(∀ r',(k,r')∉δ)→∀ b,Blk β w k r b→(¬ ok' b∧b<w'.heap.size)∧(w'.heap[b]?=w.heap[b]?∨((∃ x,r = .cell x)∧Own β' (fun i=>s.used i∨i∈news) ok' w' k r)))
  (hnew:∀ k r,(k,some r)∈δ→(s.used k.1∨k.1∈news)∧Own β' (fun i=>s.used i∨i∈news) ok' w' k r ∧
   ∀ b,Blk β' w' k r b→¬ ok' b∧b<w'.heap.size∧(b<C.w0.heap.size→match r with | .cell _=>k.1∈C.u0∧C.wr b k.2 | _=>∀ o,C.wr b o))
  (hinj:∀ k k' r r' b,(k,some r)∈δ→jX s.hp δ k'=some r'→Blk β' w' k r b→Blk β' w' k' r' b→k.1=k'.1)
  (hokb:∀ b,ok' b→b<w'.heap.size) (hokn:∀ b,ok' b→ok b∨C.w0.heap.size≤b∨∀ o,C.wr b o)
  (hframe:Frame C.wr C.w0 w'):RelB C β' ok' (s.apply dst x δ news) (a.put dst v) w':=by
 have hu:∀ i,s.used i→(s.used i∨i∈news):=fun i hi => .inl hi
 have old:∀ k r,s.hp k=some r→(∀ r',(k,r')∉δ)→Own β' (fun i=>s.used i∨i∈news) ok' w' k r:=fun k r hr hno=>by
  obtain ⟨h1,h2⟩:=h.heap k r hr
  have hb:=hβ k.1 h1
  by_cases hall:∀ b,Blk β w k r b→w'.heap[b]?=w.heap[b]?
  ·exact h2.mono hb hβ hu hk hok hall
  ·refine Classical.byContradiction fun hno'=>hall fun b hb'=>?_
   rcases (hold k r hr hno b hb').2 with e | e
   ·exact e
   ·exact absurd e.2 hno'
 have back:∀ k r,s.hp k=some r→(∀ r',(k,r')∉δ)→∀ b,Blk β' w' k r b→Blk β w k r b:=fun k r hr hno b hb=>by
  have hbk:=hβ k.1 (h.heap k r hr).1
  by_cases hc:∃ x,r = .cell x
  ·obtain ⟨x,rfl⟩:=hc
   exact hb.elim (fun hb => .inl (hbk ▸ hb)) (fun hb=>hb.elim)
  ·exact Blk.mono hbk (fun b hb'=>(hold k r hr hno b hb').2.elim id (fun e=>absurd e.1 hc)) hb
 refine ⟨(P5 a dst v).trans h.defers,(size_put a dst v).trans h.jg,fun t=>?_,fun k r hr=>?_,fun k r b hr hb=>?_,fun k k' r r' b hr hr' hb hb'=>?_,hokb,fun b hb=>hok b (h.ok0 b hb),fun b hb=>?_,hframe,fun i hi=>⟨.inl (h.keep i hi).1,(hβ i (h.keep i hi).1).trans (h.keep i hi).2⟩,h.glob.mono hk hok⟩
 ·rw [YS h.jg hd]
  show RdV β' _ ok' w' _ (if dst=some t then x else s.env t)
  split
  ·exact hv
  ·exact (h.env t).mono hβ hu hk hok
 ·rcases dP s.hp δ k with ⟨e,hno⟩ | ⟨r0,hm,e⟩
  ·have hr':s.hp k=some r:=e.symm.trans hr
   exact ⟨.inl (h.heap k r hr').1,old k r hr' hno⟩
  ·have:r0=some r:=e.symm.trans hr
   subst this
   exact ⟨(hnew k r hm).1,(hnew k r hm).2.1⟩
 ·rcases dP s.hp δ k with ⟨e,hno⟩ | ⟨r0,hm,e⟩
  ·have hr':s.hp k=some r:=e.symm.trans hr
   have hb:=back k r hr' hno b hb
   have:=hold k r hr' hno b hb
   exact ⟨this.1.1,this.1.2,(h.sep k r b hr' hb).2.2⟩
  ·have:r0=some r:=e.symm.trans hr
   subst this
   exact (hnew k r hm).2.2 b hb
 ·rcases dP s.hp δ k with ⟨e,hno⟩ | ⟨r0,hm,e⟩
  ·have h1:s.hp k=some r:=e.symm.trans hr
   rcases dP s.hp δ k' with ⟨e',hno'⟩ | ⟨r0',hm',e'⟩
   ·have h2:s.hp k'=some r':=e'.symm.trans hr'
    exact h.inj k k' r r' b h1 h2 (back k r h1 hno b hb) (back k' r' h2 hno' b hb')
   ·have:r0'=some r':=e'.symm.trans hr'
    subst this
    exact (hinj k' k r' r b hm' hr hb' hb).symm
  ·have:r0=some r:=e.symm.trans hr
   subst this
   exact hinj k k' r r' b hm hr' hb hb'
 ·rcases hokn b hb with h1 | h1 | h1
  ·exact h.okn b h1
  ·exact .inr (.inl h1)
  ·exact .inr (.inr h1)
theorem RelB.put {C:Ctx} {β:Nat→Value} {ok:Nat→Prop} {s:S} {a:Act} {w:World} (h:RelB C β ok s a w) {dst:Option Tmp} {v:Value} {x:V}
  (hd:∀ d,dst=some d→d<C.nt) (hv:RdV β s.used ok w v x):RelB C β ok (s.apply dst x [] []) (a.put dst v) w:=
 h.step hd (fun _ _=>rfl) (fun _ h=>h) (fun _ _=>rfl) (hv.mono (fun _ _=>rfl) (fun i hi => .inl hi) (fun _ _=>rfl) (fun _ h=>h))
  (fun k r hr _ b hb=>⟨⟨(h.sep k r b hr hb).1,(h.sep k r b hr hb).2.1⟩,.inl rfl⟩) (fun k r hm=>by cases hm) (fun k k' r r' b hm=>by cases hm) h.okb (fun b hb => .inl hb) h.frame
theorem Frame.alloc {wr:Nat→Nat→Prop} {w0 w:World} (h:Frame wr w0 w) (o:Obj):Frame wr w0 (w.alloc o):=
 ⟨h.os,h.tape,h.output,by have:=h.size;simp;omega,fun b hb hn=>by rw [heap_alloc_old w o b (by have:=h.size;omega)];exact h.blk b hb hn,
  fun b c T fz hb=>by
   obtain ⟨c',h1,h2,h3⟩:=h.cel b c T fz hb
   exact ⟨c',by rw [heap_alloc_old w o b (Array.getElem?_eq_some_iff.1 h1).1];exact h1,h2,h3⟩⟩
theorem gB {ok:Nat→Prop} {w:World} (hb:∀ b,ok b→b<w.heap.size) (o:Obj):Keeps ok w (w.alloc o):=fun b h=>heap_alloc_old w o b (hb b h)
theorem RelB.box {C:Ctx} {β:Nat→Value} {ok:Nat→Prop} {s:S} {a:Act} {w:World} (h:RelB C β ok s a w) {dst:Option Tmp} {o:Obj} {v:Value} {x:V}
  (hd:∀ d,dst=some d→d<C.nt) (hv:RdV β s.used (fun b=>ok b∨b=w.heap.size) (w.alloc o) v x) :
  RelB C β (fun b=>ok b∨b=w.heap.size) (s.apply dst x [] []) (a.put dst v) (w.alloc o):=
 h.step hd (fun _ _=>rfl) (fun _ h => .inl h) (gB h.okb o) (hv.mono (fun _ _=>rfl) (fun i hi => .inl hi) (fun _ _=>rfl) (fun _ h=>h))
  (fun k r hr _ b hb=>by
   have:=h.sep k r b hr hb
   exact ⟨⟨fun hc=>hc.elim this.1 (by omega),by simp;omega⟩,.inl (heap_alloc_old w o b this.2.1)⟩)
  (fun k r hm=>by cases hm) (fun k k' r r' b hm=>by cases hm)
  (fun b hb=>by
   rcases hb with hb | hb
   ·have:=h.okb b hb;simp;omega
   ·simp;omega)
  (fun b hb=>by
   rcases hb with hb | hb
   ·exact .inl hb
   ·exact .inr (.inl (by rw [hb];exact h.frame.size)))
  (h.frame.alloc o)
inductive TK where
 | int (k:IntKind) | bool | str | ptr | slc (e:Nat) | agg (fs:List (Nat×Nat×Bool)) | arr (n e:Nat) | map (k e:Nat) | fn | ifc | none
 deriving Inhabited
inductive SK where
 | b | i (k:IntKind) | s
 deriving Inhabited,DecidableEq
structure TE where
 k:TK
 size:Nat
 bytes:Nat
 zero:Value
 ks:List SK:=[]
 deriving Inhabited
def Oq (P:Program) (rec:Nat→Option (List SK)):List Field→Nat→Option (List SK)
 | [],_=>some []
 | f::fs,off=>if f.name = "_" then none else if f.offset=off then match rec f.type with
    | some ks=>if P.cellsOf f.type=ks.length then (Oq P rec fs (off+ks.length)).map (ks++·) else none
    | none=>none
  else none
def uS (P:Program):Nat→Nat→Option (List SK)
 | 0,_=>none
 | m+1,t=>match P.underlying t with
   | some .bool=>some [.b]
   | some (.int k)=>some [.i k]
   | some .string=>some [.s]
   | some (.struct fs)=>if P.stoodInHeld t=true then none else Oq P (uS P m) fs.toList 0
   | _=>none
def ksOf (P:Program) (t:Nat):List SK:=if P.eqGuardType P.depth t=true then [] else (uS P 6 t).getD []
def lT (P:Program) (t:Nat):Bool:=match P.underlying t with | some (.struct _) | some (.array _ _)=>true | _=>false
def kOf (P:Program):TypeDesc→TK
 | .int k => .int k
 | .bool => .bool
 | .string => .str
 | .pointer _ => .ptr
 | .slice e => .slc e
 | .struct fs=>if fs.toList.all (fun f=>(P.info? f.type).isSome&&(P.underlying f.type).isSome)=true then .agg (fs.toList.map fun f=>(f.offset,P.cellsOf f.type,lT P f.type)) else .none
 | .array n e=>if (P.info? e).isSome=true then .arr n e else .none
 | .map k e => .map k e
 | .func _ _ _ => .fn
 | .interface _ => .ifc
 | _ => .none
theorem jB {P:Program} {d:TypeDesc}:(∀ e,kOf P d = .slc e→d = .slice e)∧(kOf P d = .str→d = .string)∧(kOf P d = .bool→d = .bool)∧(∀ k,kOf P d = .int k→d = .int k) ∧
  (kOf P d = .ptr→∃ e,d = .pointer e)∧(∀ k e,kOf P d = .map k e→d = .map k e):=by
 cases d
 case struct fs=>
  refine ⟨fun e h=>?_,fun h=>?_,fun h=>?_,fun k h=>?_,fun h=>?_,fun k e h=>?_⟩<;>(simp only [kOf] at h;split at h<;>cases h)
 case array n e=>
  refine ⟨fun e h=>?_,fun h=>?_,fun h=>?_,fun k h=>?_,fun h=>?_,fun k e h=>?_⟩<;>(simp only [kOf] at h;split at h<;>cases h)
 all_goals simp [kOf]
def teOf (P:Program) (t:Nat):TE:=
 match P.info? t,P.underlying t with
 | some i,some d=>match i.zero with
   | some z=>if z.cells.size=i.size then ⟨kOf P d,i.size,i.bytes,z,[]⟩ else ⟨.none,0,0,undef,[]⟩
   | none=>⟨.none,0,0,undef,[]⟩
 | _,_=>⟨.none,0,0,undef,[]⟩
def TOK (P:Program) (T:Nat→TE):Prop:=∀ t,(T t).k = .none∨({ T t with ks:=[] }=teOf P t∧((T t).ks=[]∨(T t).ks=ksOf P t))
structure TFacts (P:Program) (t:Nat) (e:TE) (d:TypeDesc) (i:TypeInfo):Prop where
 info:P.info? t=some i
 und:P.underlying t=some d
 k:e.k=kOf P d
 size:i.size=e.size
 bytes:i.bytes=e.bytes
 zero:i.zero=some e.zero
 jf:e.zero.cells.size=e.size
theorem TOK.facts {P:Program} {T:Nat→TE} (h:TOK P T) {t:Nat} (hk:(T t).k ≠ .none):∃ d i,TFacts P t (T t) d i:=by
 rcases h t with h | ⟨h,_⟩
 ·exact absurd h hk
 ·have hk':({ T t with ks:=[] }:TE).k ≠ .none:=hk
  suffices H:∃ d i,TFacts P t { T t with ks:=[] } d i by
   obtain ⟨d,i,f⟩:=H
   exact ⟨d,i,f.info,f.und,f.k,f.size,f.bytes,f.zero,f.jf⟩
  generalize ({ T t with ks:=[] }:TE)=e at h hk'
  unfold teOf at h
  split at h
  ·rename_i i d hi hd
   split at h
   ·rename_i z hz
    split at h
    ·rename_i hs
     rw [h]
     exact ⟨d,i,hi,hd,rfl,rfl,rfl,hz,hs⟩
    ·rw [h] at hk';exact absurd rfl hk'
   ·rw [h] at hk';exact absurd rfl hk'
  ·rw [h] at hk';exact absurd rfl hk'
theorem TOK.keys {P:Program} {T:Nat→TE} (h:TOK P T) {t:Nat} (hk:(T t).k ≠ .none) (hn:(T t).ks≠[]):P.eqGuardType P.depth t=false∧uS P 6 t=some (T t).ks:=by
 rcases h t with h | ⟨_,h | h⟩
 ·exact absurd h hk
 ·exact absurd h hn
 ·rw [h] at hn ⊢
  unfold ksOf at hn ⊢
  split at hn
  ·exact absurd rfl hn
  ·rename_i hg
   rw [if_neg hg]
   refine ⟨by simpa using hg,?_⟩
   cases he:uS P 6 t with
   | none=>rw [he] at hn;exact absurd rfl hn
   | some ks=>rfl
section
variable {P:Program} {T:Nat→TE}
theorem TFacts.cellsOf {t:Nat} {e:TE} {d:TypeDesc} {i:TypeInfo} (h:TFacts P t e d i):P.cellsOf t=e.size:=by
 simp [Program.cellsOf,h.info,h.size]
theorem TFacts.sizeOf {t:Nat} {e:TE} {d:TypeDesc} {i:TypeInfo} (h:TFacts P t e d i) (w:World):(sizeOf t).run P w = .ok e.size w:=by
 rw [← h.cellsOf];exact run_sizeOf w h.info
def TK.isAgg:TK→Bool
 | .agg _=>true
 | .arr _ _=>true
 | _=>false
theorem TFacts.En {t:Nat} {e:TE} {d:TypeDesc} {i:TypeInfo} (h:TFacts P t e d i) (hk:e.k ≠ .none):(isAgg t).run P=fun w => .ok e.k.isAgg w:=by
 funext w
 have hk':=h.k
 cases d
 case struct fs=>
  by_cases hc:fs.toList.all (fun f=>(P.info? f.type).isSome&&(P.underlying f.type).isSome)=true
  ·simp only [kOf,if_pos hc] at hk'
   simp [isAgg,run_underlying h.und,hk',TK.isAgg]
  ·simp only [kOf,if_neg hc] at hk'
   exact absurd hk' hk
 case array n e0=>
  by_cases hc:(P.info? e0).isSome=true
  ·simp only [kOf,if_pos hc] at hk'
   simp [isAgg,run_underlying h.und,hk',TK.isAgg]
  ·simp only [kOf,if_neg hc] at hk'
   exact absurd hk' hk
 all_goals simp [kOf] at hk'<;>simp [isAgg,run_underlying h.und,hk',TK.isAgg]<;>exact absurd hk' hk
theorem TFacts.mP {t:Nat} {e:TE} {d:TypeDesc} {i:TypeInfo} (h:TFacts P t e d i) (hk:e.k.isAgg=true) (w:World) (b o:Nat) (f:Nat→Value)
  (hc:∀ j,j<e.size→w.cell? ⟨b,o+j,none⟩=some (f j)):(loadVar t ⟨b,o,none⟩).run P w = .ok (.agg ((List.range e.size).map f).toArray) w:=by
 have hl:=run_loadCells (P:=P) w ⟨b,o,none⟩ e.size f (fun j hj=>by rw [Addr.add_lit];exact hc j hj)
 have ha:=congrFun (h.En (by intro e0;rw [e0] at hk;cases hk)) w
 simp [loadVar,ha,hk,h.sizeOf w,hl]
theorem TFacts.iV {t:Nat} {e:TE} {d:TypeDesc} {i:TypeInfo} (h:TFacts P t e d i) (hk:e.k ≠ .none) (hk':e.k.isAgg=false) (w:World) (b o:Nat) (v:Value)
  (hc:w.cell? ⟨b,o,none⟩=some v):(loadVar t ⟨b,o,none⟩).run P w = .ok v w:=by
 have ha:=congrFun (h.En hk) w
 simp [loadVar,ha,hk',hc]
end
def asInt (x:D) (K:IntKind→Int→Prop):Prop:=match x with | .int k n=>K k n | _=>False
def asBool (x:D) (K:Bool→Prop):Prop:=match x with | .bool b=>K b | _=>False
def gq (x:D) (K:List UInt8→Prop):Prop:=match x with | .str s=>K s | _=>False
def zl (x:D) (K:List D→Prop):Prop:=match x with | .list xs=>K xs | _=>False
def UF (x:D) (K:List D→Nat→Prop):Prop:=match x with | .ref cs off=>K cs off | _=>False
def asAgg (x:D) (K:List D→Prop):Prop:=match x with | .agg cs=>K cs | _=>False
def EW (v:V) (K:IntKind→Int→Prop):Prop:=match v with | .d x=>asInt x K | _=>False
def La (v:V) (K:Bool→Prop):Prop:=match v with | .d x=>asBool x K | _=>False
theorem fF {x:D} {K:IntKind→Int→Prop} (h:asInt x K):∃ k n,x = .int k n∧K k n:=by cases x<;>first | exact ⟨_,_,rfl,h⟩ | exact h.elim
theorem gQ {x:D} {K:Bool→Prop} (h:asBool x K):∃ b,x = .bool b∧K b:=by cases x<;>first | exact ⟨_,rfl,h⟩ | exact h.elim
theorem gJ {x:D} {K:List UInt8→Prop} (h:gq x K):∃ s,x = .str s∧K s:=by cases x<;>first | exact ⟨_,rfl,h⟩ | exact h.elim
theorem gK {x:D} {K:List D→Prop} (h:zl x K):∃ s,x = .list s∧K s:=by cases x<;>first | exact ⟨_,rfl,h⟩ | exact h.elim
theorem pJ {x:D} {K:List D→Nat→Prop} (h:UF x K):∃ cs off,x = .ref cs off∧K cs off:=by cases x<;>first | exact ⟨_,_,rfl,h⟩ | exact h.elim
theorem pK {x:D} {K:List D→Prop} (h:asAgg x K):∃ s,x = .agg s∧K s:=by cases x<;>first | exact ⟨_,rfl,h⟩ | exact h.elim
theorem fP {v:V} {K:IntKind→Int→Prop} (h:EW v K):∃ k n,v = .d (.int k n)∧K k n:=by
 cases v<;>first | (obtain ⟨k,n,rfl,h⟩:=fF h;exact ⟨_,_,rfl,h⟩) | exact h.elim
theorem uN {v:V} {K:Bool→Prop} (h:La v K):∃ b,v = .d (.bool b)∧K b:=by
 cases v<;>first | (obtain ⟨b,rfl,h⟩:=gQ h;exact ⟨_,rfl,h⟩) | exact h.elim
def cut (cs:List D) (off n:Nat) (K:List D→Prop):Prop:=
 match off,n,cs with
 | _,0,_=>K []
 | 0,n+1,c::cs=>cut cs 0 n fun r=>K (c::r)
 | off+1,n+1,_::cs=>cut cs off (n+1) K
 | _,_+1,[]=>False
theorem lQ:∀ (cs:List D) (off n:Nat) (K:List D→Prop),cut cs off n K→∃ r,r.length=n∧(∀ j,j<n→cs[off+j]?=r[j]?)∧K r
 | _,_,0,K,h=>by
   have h':K []:=by unfold cut at h;exact h
   exact ⟨[],rfl,fun j hj=>by omega,h'⟩
 | c::cs,0,n+1,K,h=>by
   unfold cut at h
   obtain ⟨r,h1,h2,h3⟩:=lQ cs 0 n _ h
   refine ⟨c::r,by simp [h1],fun j hj=>?_,h3⟩
   cases j with
   | zero=>simp
   | succ j=>have:=h2 j (by omega);simpa using this
 | _::cs,off+1,n+1,K,h=>by
   unfold cut at h
   obtain ⟨r,h1,h2,h3⟩:=lQ cs off (n+1) _ h
   refine ⟨r,h1,fun j hj=>?_,h3⟩
   have:=h2 j hj
   rw [show off+1+j=(off+j)+1 by omega]
   simpa using this
 | [],0,n+1,K,h=>by unfold cut at h;exact h.elim
 | [],off+1,n+1,K,h=>by unfold cut at h;exact h.elim
section
variable {P:Program} {T:Nat→TE} {ok:Nat→Prop} {w:World}
theorem yE (hT:TOK P T) {t:Nat} (hk:(T t).k.isAgg=true) {v:Value} {cs:List D} {off:Nat} {r:List D} (hv:RdD ok w v (.ref cs off))
  (hl:r.length=(T t).size) (hr:∀ j,j<(T t).size→cs[off+j]?=r[j]?):∃ v',(Instr.loadAt t v).run P w = .ok v' w∧RdD ok w v' (.agg r):=by
 obtain ⟨d,i,hf⟩:=hT.facts (t:=t) (by intro e0;rw [e0] at hk;cases hk)
 cases hv with
 | ref b o off cs us h1 h2 h3=>
   have hcell:∀ j,j<(T t).size→∃ c,cs[off+j]?=some c∧r[j]?=some c:=fun j hj=>by
    have:j<r.length:=by omega
    exact ⟨r[j],by rw [hr j hj];simp [this],by simp [this]⟩
   have hl':=hf.mP hk w b (o+off) (fun j=>us (off+j)) (fun j hj=>by
    obtain ⟨c,hc,_⟩:=hcell j hj
    have:=(h2 (off+j) c hc).1
    rwa [← Nat.add_assoc] at this)
   refine ⟨.agg ((List.range (T t).size).map fun j=>us (off+j)).toArray,by simp [Instr.loadAt,Instr.sureAddr,hl'],.agg _ _ (by simp [hl]) (fun j v c hv hc=>?_) (fun j v c hv hc=>?_)⟩
   ·simp only [List.getElem?_toArray,List.getElem?_map] at hv
    have hj:j<(T t).size:=by
     rcases Nat.lt_or_ge j (T t).size with h | h
     ·exact h
     ·simp [List.getElem?_eq_none (show r.length≤j by omega)] at hc
    simp [hj] at hv
    subst hv
    exact h3 (off+j) c (by rw [hr j hj];exact hc)
   ·simp only [List.getElem?_toArray,List.getElem?_map] at hv
    have hj:j<(T t).size:=by
     rcases Nat.lt_or_ge j (T t).size with h | h
     ·exact h
     ·simp [List.getElem?_eq_none (show r.length≤j by omega)] at hc
    simp [hj] at hv
    subst hv
    exact (h2 (off+j) c (by rw [hr j hj];exact hc)).2
theorem yD (hT:TOK P T) {t:Nat} (hk:(T t).k ≠ .none) (hk':(T t).k.isAgg=false) {v:Value} {cs:List D} {off:Nat} {c:D} (hv:RdD ok w v (.ref cs off))
  (hc:cs[off]?=some c):∃ v',(Instr.loadAt t v).run P w = .ok v' w∧RdD ok w v' c∧v'.oneCell'=true:=by
 obtain ⟨d,i,hf⟩:=hT.facts (t:=t) hk
 cases hv with
 | ref b o off cs us h1 h2 h3=>
   exact ⟨us off,by simp [Instr.loadAt,Instr.sureAddr,hf.iV hk hk' w b (o+off) (us off) (h2 off c hc).1],h3 off c hc,(h2 off c hc).2.1⟩
theorem zG (hT:TOK P T) {t f:Nat} {fs:List (Nat×Nat×Bool)} {fo fsz:Nat} {fb:Bool} (hk:(T t).k = .agg fs) (hf:fs[f]?=some (fo,fsz,fb)) (hsz:fsz≠0) (b o:Nat) :
  (Instr.fieldAt t (.pointer (some ⟨b,o,none⟩)) f).run P w = .ok (.pointer (some ⟨b,o+fo,none⟩)) w:=by
 obtain ⟨d,i,h⟩:=hT.facts (t:=t) (by rw [hk];intro e;cases e)
 have hd:=h.k
 rw [hk] at hd
 cases d with
 | struct fields=>
   simp only [kOf] at hd
   split at hd
   case isFalse=>cases hd
   simp only [TK.agg.injEq] at hd
   subst hd
   simp only [List.getElem?_map,Option.map_eq_some_iff] at hf
   obtain ⟨fd,hfd,he⟩:=hf
   simp only [Prod.mk.injEq] at he
   obtain ⟨rfl,hz,_⟩:=he
   have hfd':fields[f]?=some fd:=by simpa using hfd
   have hs:(sizeOf fd.type).run P w = .ok fsz w:=by
    unfold Program.cellsOf at hz
    cases hi:P.info? fd.type with
    | none=>rw [hi] at hz;simp at hz;omega
    | some i=>
      rw [hi] at hz
      simp at hz
      simp [Go.sizeOf,typeInfo,hi,hz]
   simp [Instr.fieldAt,run_underlying h.und,hfd',Instr.sureAddr,fieldPlace,hs,hsz,Addr.add_lit]
 | array n e=>(simp only [kOf] at hd;split at hd<;>cases hd)
 | _=>simp [kOf] at hd
end
theorem Jw (s:List UInt8) (l h:Nat):(⟨s.toArray⟩:ByteArray).extract l h=⟨((s.take h).drop l).toArray⟩:=by
 apply ByteArray.ext
 apply Array.ext'
 simp [List.extract_eq_take_drop]
 rw [List.take_drop]
 rcases Nat.le_total l h with e | e
 ·rw [show l+(h-l)=h by omega]
 ·rw [show h-l=0 by omega,List.drop_eq_nil_of_le (by simp;omega),List.drop_eq_nil_of_le (by simp;omega)]
theorem SH (s:List UInt8) (i:Nat) (c:UInt8) (hc:s[i]?=some c):(⟨s.toArray⟩:ByteArray)[i]?=some c:=by
 obtain ⟨hl,e⟩:=List.getElem?_eq_some_iff.1 hc
 have:i<(⟨s.toArray⟩:ByteArray).size:=by simpa [ByteArray.size] using hl
 rw [getElem?_pos (⟨s.toArray⟩:ByteArray) i this]
 exact congrArg some e
section
variable {P:Program} {T:Nat→TE} {ok:Nat→Prop} {w:World}
theorem RdD.cellsOf {v:Value} {x:D} (h:RdD ok w v x):v.cells.size=x.cells.length ∧
  ∀ (j:Nat) u c,v.cells[j]?=some u→x.cells[j]?=some c→RdD ok w u c∧u.oneCell'=true∧c.one=true:=by
 cases h with
 | agg vs cs h1 h2 h3=>exact ⟨h1,fun j u c hu hc=>⟨h2 j u c hu hc,h3 j u c hu hc⟩⟩
 | bool b=>exact ⟨rfl,fun j u c hu hc=>by cases j<;>simp [Value.cells,D.cells] at hu hc;subst hu;subst hc;exact ⟨.bool b,rfl,rfl⟩⟩
 | int k n=>exact ⟨rfl,fun j u c hu hc=>by cases j<;>simp [Value.cells,D.cells] at hu hc;subst hu;subst hc;exact ⟨.int k n,rfl,rfl⟩⟩
 | str s hs=>exact ⟨rfl,fun j u c hu hc=>by cases j<;>simp [Value.cells,D.cells] at hu hc;subst hu;subst hc;exact ⟨.str s hs,rfl,rfl⟩⟩
 | lF a=>exact ⟨rfl,fun j u c hu hc=>by cases j<;>simp [Value.cells,D.cells] at hu hc;subst hu;subst hc;exact ⟨.lF a,rfl,rfl⟩⟩
 | lst a cap sz xs us h1 h2 h3 h4 h5 h6 h7 h8=>
   exact ⟨rfl,fun j u c hu hc=>by cases j<;>simp [Value.cells,D.cells] at hu hc;subst hu;subst hc;exact ⟨.lst a cap sz xs us h1 h2 h3 h4 h5 h6 h7 h8,rfl,rfl⟩⟩
 | ref b o off cs us h1 h2 h3=>exact ⟨rfl,fun j u c hu hc=>by cases j<;>simp [Value.cells,D.cells] at hu hc;subst hu;subst hc;exact ⟨.ref b o off cs us h1 h2 h3,rfl,rfl⟩⟩
 | dN=>exact ⟨rfl,fun j u c hu hc=>by cases j<;>simp [Value.cells,D.cells] at hu hc;subst hu;subst hc;exact ⟨.dN,rfl,rfl⟩⟩
 | Vh=>exact ⟨rfl,fun j u c hu hc=>by cases j<;>simp [Value.cells,D.cells] at hu hc;subst hu;subst hc;exact ⟨.Vh,rfl,rfl⟩⟩
 | map r clock ents es h1 h2 h3 h4 h5=>exact ⟨rfl,fun j u c hu hc=>by cases j<;>simp [Value.cells,D.cells] at hu hc;subst hu;subst hc;exact ⟨.map r clock ents es h1 h2 h3 h4 h5,rfl,rfl⟩⟩
 | fn f vs cs h1 h2=>exact ⟨rfl,fun j u c hu hc=>by cases j<;>simp [Value.cells,D.cells] at hu hc;subst hu;subst hc;exact ⟨.fn f vs cs h1 h2,rfl,rfl⟩⟩
theorem rD (w:World) (c:Array Value) (t:TypeId) (j:Nat):(w.alloc (.cells c t)).cell? ⟨w.heap.size,j,none⟩=c[j]?:=
 cell_of_row _ _ j c t (0,0) (heap_alloc_new w _)
theorem BP (hb:∀ b,ok b→b<w.heap.size) {v:Value} {x:D} (hv:RdD ok w v x) (t:Nat) :
  ∃ v' o,(Instr.box t v).run P w = .ok v' (w.alloc o)∧RdD (fun b=>ok b∨b=w.heap.size) (w.alloc o) v' (.ref x.cells 0):=by
 obtain ⟨h1,h2⟩:=hv.cellsOf
 refine ⟨.pointer (some ⟨w.heap.size,0+0,none⟩),.cells v.cells t,by simp [Instr.box,newVar,newRow],?_⟩
 refine .ref _ 0 0 _ (fun j=>v.cells.getD j undef) (.inr rfl) (fun j c hc=>?_) (fun j c hc=>?_)
 ·have hj:j<v.cells.size:=by rw [h1];exact (List.getElem?_eq_some_iff.1 hc).1
  have e:v.cells[j]?=some (v.cells.getD j undef):=by simp [hj]
  rw [Nat.zero_add,rD,e]
  exact ⟨rfl,(h2 j _ c e hc).2⟩
 ·have hj:j<v.cells.size:=by rw [h1];exact (List.getElem?_eq_some_iff.1 hc).1
  have e:v.cells[j]?=some (v.cells.getD j undef):=by simp [hj]
  exact (h2 j _ c e hc).1.mono (gB hb _) (fun _ h => .inl h)
theorem TOK.slc (hT:TOK P T) {t e:Nat} (hk:(T t).k = .slc e):P.underlying t=some (.slice e):=by
 obtain ⟨d,i,h⟩:=hT.facts (t:=t) (by rw [hk];intro e;cases e)
 have hd:=h.k
 rw [hk] at hd
 rw [jB.1 e hd.symm] at h
 exact h.und
theorem yF (hT:TOK P T) {t e:Nat} (hk:(T t).k = .slc e) (he:(T e).k ≠ .none) {v:Value} {xs:List D} (hv:RdD ok w v (.list xs)) {k:IntKind} {i:Int} (h0:0≤i)
  {x:D} (hx:xs[i.toNat]?=some x) (hsz:x.cells.length=(T e).size) :
  ∃ v',(Instr.indexAt t v (.int k i)).run P w = .ok v' w∧RdD ok w v' (.ref x.cells 0):=by
 have hu:=hT.slc hk
 obtain ⟨de,ie,hfe⟩:=hT.facts he
 have hlt:i.toNat<xs.length:=(List.getElem?_eq_some_iff.1 hx).1
 cases hv with
 | lF a=>simp at hlt
 | lst a cap sz xs us h1 h2 h3 h4 h5 h6 h7 h8=>
   obtain ⟨b,o,sp⟩:=a
   simp only at h2
   subst h2
   have hs:sz=(T e).size:=by rw [← h6 _ _ hx,hsz]
   have hi:i<(xs.length:Int):=by omega
   refine ⟨.pointer (some ⟨b,(o+i.toNat*sz)+0,none⟩),?_,.ref b (o+i.toNat*sz) 0 _ (fun j=>us i.toNat j) h1 (fun j c hc=>?_) (fun j c hc=>h8 _ _ j c hx hc)⟩
   ·simp [Instr.indexAt,run_underlying hu,asIntOf,hfe.sizeOf,h0,hi,Addr.add_lit,hs]
   ·have:=h7 _ _ j c hx hc
    simp only at this
    rwa [← Nat.add_assoc] at this
theorem E8 (hT:TOK P T) {t:Nat} (hk:(T t).k = .str) {v:Value} {s:List UInt8} (hv:RdD ok w v (.str s)) {k:IntKind} {i:Int} (h0:0≤i) {c:UInt8} (hc:s[i.toNat]?=some c) :
  (Instr.index t v (.int k i)).run P w = .ok (.int .u8 c.toNat) w:=by
 obtain ⟨d,inf,h⟩:=hT.facts (t:=t) (by rw [hk];intro e;cases e)
 have hd:=h.k
 rw [hk] at hd
 have hu:P.underlying t=some .string:=by rw [jB.2.1 hd.symm] at h;exact h.und
 cases hv with
 | str s hs=>
   have hc':=SH s _ c hc
   simp [Instr.index,run_underlying hu,asIntOf,h0,hc']
theorem EZ (hT:TOK P T) {t:Nat} (hk:(T t).k = .str) {v:Value} {s:List UInt8} (hv:RdD ok w v (.str s)) {kl kh:IntKind} {lo hi:Option Int}
  (h0:∀ l,lo=some l→0≤l) (h1:∀ h,hi=some h→h≤s.length) (h2:lo.getD 0≤hi.getD s.length) :
  ∃ v',(Instr.sliceAt t v (lo.map (.int kl)) (hi.map (.int kh)) none).run P w = .ok v' w ∧
    RdD ok w v' (.str ((s.take (hi.getD s.length).toNat).drop (lo.getD 0).toNat)):=by
 obtain ⟨d,inf,h⟩:=hT.facts (t:=t) (by rw [hk];intro e;cases e)
 have hd:=h.k
 rw [hk] at hd
 have hu:P.underlying t=some .string:=by rw [jB.2.1 hd.symm] at h;exact h.und
 cases hv with
 | str s hs=>
   have hsz:(⟨s.toArray⟩:ByteArray).size=s.length:=by simp [ByteArray.size]
   have key:∀ (l h:Nat),l≤h→h≤s.length→RdD ok w (.string ((⟨s.toArray⟩:ByteArray).extract l h)) (.str ((s.take h).drop l)):=fun l h _ hh=>by
    rw [Jw]
    exact .str _ (by simp;omega)
   cases lo with
   | none=>cases hi with
     | none=>
       refine ⟨.string ((⟨s.toArray⟩:ByteArray).extract 0 s.length),?_,by have:=key 0 s.length (by omega) (by omega);simpa using this⟩
       have hf:(⟨s.toArray⟩:ByteArray)=(⟨s.toArray⟩:ByteArray).extract 0 s.length:=by rw [Jw];simp
       simp [Instr.sliceAt,Instr.slice,run_underlying hu,Instr.sliceBounds,← hf]
     | some h=>
       have:=h1 h rfl
       simp at h2
       refine ⟨.string ((⟨s.toArray⟩:ByteArray).extract 0 h.toNat),?_,by have:=key 0 h.toNat (by omega) (by omega);simpa using this⟩
       simp [Instr.sliceAt,Instr.slice,run_underlying hu,Instr.sliceBounds,Instr.sliceBound,asIntOf,hsz,this,h2]
   | some l=>cases hi with
     | none=>
       have:=h0 l rfl
       simp at h2
       refine ⟨.string ((⟨s.toArray⟩:ByteArray).extract l.toNat s.length),?_,by have:=key l.toNat s.length (by omega) (by omega);simpa using this⟩
       simp [Instr.sliceAt,Instr.slice,run_underlying hu,Instr.sliceBounds,Instr.sliceBound,asIntOf,hsz,this,h2]
     | some h=>
       have h0':=h0 l rfl
       have h1':=h1 h rfl
       simp at h2
       refine ⟨.string ((⟨s.toArray⟩:ByteArray).extract l.toNat h.toNat),?_,by have:=key l.toNat h.toNat (by omega) (by omega);simpa using this⟩
       have h3:0≤h:=by omega
       have h4:l≤max h 0:=by omega
       simp [Instr.sliceAt,Instr.slice,run_underlying hu,Instr.sliceBounds,Instr.sliceBound,asIntOf,hsz,h0',h1',h3,h4]
end
def bD (b:Bool) (p:Prop):Prop:=match b with | true=>p | false=>False
theorem aF {b:Bool} {p:Prop} (h:bD b p):b=true∧p:=by cases b<;>first | exact ⟨rfl,h⟩ | exact h.elim
def iC:SK→D→Bool
 | .b,.bool _=>true
 | .i k,.int k' _=>match decEq k k' with | .isTrue _=>true | .isFalse _=>false
 | .s,.str _=>true
 | _,_=>false
theorem oL {k k':IntKind} {n:Int} (h:iC (.i k) (.int k' n)=true):k=k':=by
 have h':(match decEq k k' with | .isTrue _=>true | .isFalse _=>false)=true:=h
 split at h'
 ·assumption
 ·cases h'
def fK:List SK→List D→Bool
 | [],[]=>true
 | k::ks,c::cs=>match iC k c with | true=>fK ks cs | false=>false
 | _,_=>false
def eq1:D→D→Bool
 | .bool a,.bool b=>a==b
 | .int _ a,.int _ b=>a==b
 | .str a,.str b=>a==b
 | _,_=>false
def aW:List D→List D→Bool
 | [],[]=>true
 | [x],[y]=>eq1 x y
 | x::xs,y::ys=>eq1 x y&&aW xs ys
 | _,_=>false
theorem kM (x y:D) (xs ys:List D) (h:xs.length=ys.length):aW (x::xs) (y::ys)=(eq1 x y&&aW xs ys):=by
 cases xs<;>cases ys<;>simp_all [aW]
theorem qX:∀ (xs ys xs' ys':List D),xs.length=ys.length→xs'.length=ys'.length→aW (xs++xs') (ys++ys')=(aW xs ys&&aW xs' ys')
 | [],[],xs',ys',_,_=>by simp [aW]
 | x::xs,y::ys,xs',ys',h,h'=>by
   rw [List.cons_append,List.cons_append,kM x y _ _ (by simp at h ⊢;omega),kM x y xs ys (by simpa using h),qX xs ys xs' ys' (by simpa using h) h',Bool.and_assoc]
 | [],_::_,_,_,h,_=>by simp at h
 | _::_,[],_,_,h,_=>by simp at h
theorem dn:∀ {ks:List SK} {cs:List D},fK ks cs=true→cs.length=ks.length
 | [],[],_=>rfl
 | k::ks,c::cs,h=>by
   unfold fK at h
   split at h
   ·simp [dn h]
   ·cases h
 | [],_::_,h=>by simp [fK] at h
 | _::_,[],h=>by simp [fK] at h
theorem mX:∀ {ks ks':List SK} {cs:List D},fK (ks++ks') cs=true→fK ks (cs.take ks.length)=true∧fK ks' (cs.drop ks.length)=true
 | [],ks',cs,h=>by simpa [fK] using h
 | k::ks,ks',c::cs,h=>by
   simp only [List.cons_append,fK] at h ⊢
   split at h
   ·rename_i h1
    simp only [List.length_cons,List.take_succ_cons,List.drop_succ_cons,fK,h1]
    exact mX h
   ·cases h
 | _::_,_,[],h=>by simp [fK] at h
section
variable {P:Program}
def Shape (P:Program) (t:Nat) (x:D):Prop:=x.one=!(lT P t)
theorem sH {t:Nat} {d:TypeDesc} (hu:P.underlying t=some d) (w:World):(isAgg t).run P w = .ok (lT P t) w:=by
 unfold lT
 rw [hu]
 cases d<;>simp [isAgg,run_underlying hu]
theorem RdD.Qk {ok:Nat→Prop} {w:World} {xs:Array Value} {cs:List D} (h:RdD ok w (.agg xs) (.agg cs)) (off n:Nat) (hn:off+n≤cs.length):RdD ok w (.agg (xs.extract off (off+n))) (.agg ((cs.drop off).take n)):=by
 cases h with
 | agg _ _ h1 h2 h3=>
   have key:∀ (i:Nat) v c,(xs.extract off (off+n))[i]?=some v→((cs.drop off).take n)[i]?=some c→xs[off+i]?=some v∧cs[off+i]?=some c:=fun i v c hv hc=>by
    have hi:i<n:=by
     have:=(List.getElem?_eq_some_iff.1 hc).1
     simp at this;omega
    rw [List.getElem?_take_of_lt hi,List.getElem?_drop] at hc
    refine ⟨?_,hc⟩
    rw [Array.getElem?_extract] at hv
    split at hv
    ·exact hv
    ·cases hv
   refine .agg _ _ ?_ (fun i v c hv hc=>h2 _ v c (key i v c hv hc).1 (key i v c hv hc).2) (fun i v c hv hc=>h3 _ v c (key i v c hv hc).1 (key i v c hv hc).2)
   simp
   omega
theorem yC {e:Nat} {d:TypeDesc} (hu:P.underlying e=some d) {n:Nat} (hs:P.cellsOf e=n) {ok:Nat→Prop} {w:World} {xs:Array Value} {cs:List D} (h:RdD ok w (.agg xs) (.agg cs)) {off:Nat} (hn:off+n≤cs.length) (h1:lT P e=false→n=1) :
  ∃ v x,(part e xs off).run P w = .ok v w∧RdD ok w v x∧x.cells=(cs.drop off).take n∧Shape P e x:=by
 obtain ⟨i,hi⟩:∃ i,P.info? e=some i:=by
  unfold Program.underlying at hu
  cases hi:P.info? e with
  | none=>simp [hi] at hu
  | some i=>exact ⟨i,rfl⟩
 cases ha:lT P e with
 | true=>
   refine ⟨.agg (xs.extract off (off+n)),.agg ((cs.drop off).take n),?_,h.Qk off n hn,rfl,by simp [Shape,ha,D.one]⟩
   have hz:(sizeOf e).run P w = .ok n w:=by rw [run_sizeOf w hi,hs]
   simp [part,sH hu,ha,hz]
 | false=>
   have hn1:=h1 ha
   subst hn1
   cases h with
   | agg _ _ q1 q2 q3=>
     have hc:cs[off]?=some cs[off]:=by simp
     have hx:xs[off]?=some xs[off]:=by simp
     have o1:=(q3 off _ _ hx hc).2
     refine ⟨xs[off],cs[off],?_,q2 off _ _ hx hc,?_,by simp [Shape,ha,o1]⟩
     ·simp [part,sH hu,ha,hx]
     ·have:(cs.drop off).take 1=[cs[off]]:=by rw [List.drop_eq_getElem_cons (by omega)];rfl
      rw [this]
      cases hcs:cs[off]<;>rw [hcs] at o1<;>first | rfl | cases o1
theorem WA:∀ {m t:Nat} {ks:List SK},uS P m t=some ks→lT P t=false→ks.length=1
 | 0,_,_,h,_=>by simp [uS] at h
 | m+1,t,ks,h,ha=>by
   unfold uS at h
   unfold lT at ha
   cases hu:P.underlying t with
   | none=>rw [hu] at h;cases h
   | some d=>
     rw [hu] at h ha
     cases d<;>simp at h ha<;>first | (subst h;rfl) | exact absurd h id
theorem Wy {m t:Nat} {ks:List SK} (h:uS P m t=some ks):∃ d,P.underlying t=some d:=by
 cases m with
 | zero=>simp [uS] at h
 | succ m=>
   unfold uS at h
   cases hu:P.underlying t with
   | none=>rw [hu] at h;cases h
   | some d=>exact ⟨d,rfl⟩
def abD (P:Program) (n t:Nat) (ks:List SK):Prop:=∀ (ok:Nat→Prop) (w:World) (vx vy:Value) (x y:D),RdD ok w vx x→RdD ok w vy y→Shape P t x→Shape P t y→fK ks x.cells=true→fK ks y.cells=true →
 (Op.equalIn n t vx vy).run P w = .ok (aW x.cells y.cells) w∧∀ em,(Instr.checkKey em n t vx).run P w = .ok () w
theorem uf {n:Nat} {rec:Nat→Option (List SK)} (hrec:∀ t ks,rec t=some ks→abD P n t ks∧(∃ d,P.underlying t=some d)∧(lT P t=false→ks.length=1)) {ok:Nat→Prop} {w:World} {xs ys:Array Value} {cx cy:List D}
  (hx:RdD ok w (.agg xs) (.agg cx)) (hy:RdD ok w (.agg ys) (.agg cy)):∀ (fs:List Field) (off:Nat) (ks:List SK),Oq P rec fs off=some ks→off≤cx.length→off≤cy.length→fK ks (cx.drop off)=true→fK ks (cy.drop off)=true →
  (Op.eqFields n xs ys fs).run P w = .ok (aW (cx.drop off) (cy.drop off)) w
 | [],off,ks,h,ox,oy,fx,fy=>by
   simp [Oq] at h
   subst h
   have e1:cx.drop off=[]:=by have:=dn fx;simp at this;simpa using (by omega:cx.length≤off)
   have e2:cy.drop off=[]:=by have:=dn fy;simp at this;simpa using (by omega:cy.length≤off)
   rw [e1,e2]
   simp [Op.eqFields,aW]
 | f::fs,off,ks,h,ox,oy,fx,fy=>by
   unfold Oq at h
   split at h
   ·cases h
   rename_i hname
   split at h
   case isFalse=>cases h
   rename_i hoff
   split at h
   case h_2=>cases h
   rename_i k1 hk1
   split at h
   case isFalse=>cases h
   rename_i hsz
   simp only [Option.map_eq_some_iff] at h
   obtain ⟨k2,hk2,rfl⟩:=h
   obtain ⟨heq,⟨d,hu⟩,hag⟩:=hrec _ _ hk1
   have lx:=dn fx
   have ly:=dn fy
   simp only [List.length_append,List.length_drop] at lx ly
   obtain ⟨f1,f2⟩:=mX fx
   obtain ⟨g1,g2⟩:=mX fy
   obtain ⟨a,da,p1,p2,p3,p4⟩:=yC hu hsz hx (off:=off) (by omega) hag
   obtain ⟨b,db,q1,q2,q3,q4⟩:=yC hu hsz hy (off:=off) (by omega) hag
   have:=(heq ok w a b da db p2 q2 p4 q4 (by rw [p3];exact f1) (by rw [q3];exact g1)).1
   rw [List.drop_drop] at f2 g2
   have ih:=uf hrec hx hy fs (off+k1.length) k2 hk2 (by omega) (by omega) f2 g2
   have el:∀ (c:List D),c.length-off=k1.length+k2.length→c.drop off=(c.drop off).take k1.length++c.drop (off+k1.length):=fun c _=>by rw [← List.drop_drop,List.take_append_drop]
   rw [el cx lx,el cy ly,qX _ _ _ _ (by simp;omega) (by simp;omega)]
   simp only [Op.eqFields,hname,ne_eq,not_false_eq_true,if_true,Sem.run_bind,hoff,p1,q1,Result.andThen_ok,this,p3,q3]
   cases aW ((cx.drop off).take k1.length) ((cy.drop off).take k1.length)
   ·simp
   ·simp [ih]
theorem oC {n:Nat} {em:Bool} {rec:Nat→Option (List SK)} (hrec:∀ t ks,rec t=some ks→abD P n t ks∧(∃ d,P.underlying t=some d)∧(lT P t=false→ks.length=1)) {ok:Nat→Prop} {w:World} {xs:Array Value} {cx:List D}
  (hx:RdD ok w (.agg xs) (.agg cx)):∀ (fs:List Field) (off:Nat) (ks:List SK),Oq P rec fs off=some ks→off≤cx.length→fK ks (cx.drop off)=true →
  ((forIn fs PUnit.unit fun f _=>if f.name ≠ "_" then do Instr.checkKey em n f.type (← part f.type xs f.offset);pure (ForInStep.yield PUnit.unit) else pure (ForInStep.yield PUnit.unit)):Sem PUnit).run P w = .ok PUnit.unit w
 | [],off,ks,h,ox,fx=>by simp
 | f::fs,off,ks,h,ox,fx=>by
   have lx:=dn fx
   unfold Oq at h
   split at h
   ·cases h
   rename_i hname
   split at h
   case isFalse=>cases h
   rename_i hoff
   split at h
   case h_2=>cases h
   rename_i k1 hk1
   split at h
   case isFalse=>cases h
   rename_i hsz
   simp only [Option.map_eq_some_iff] at h
   obtain ⟨k2,hk2,rfl⟩:=h
   obtain ⟨heq,⟨d,hu⟩,hag⟩:=hrec _ _ hk1
   obtain ⟨f1,f2⟩:=mX fx
   simp only [List.length_append,List.length_drop] at lx
   obtain ⟨a,da,p1,p2,p3,p4⟩:=yC hu hsz hx (off:=off) (by omega) hag
   have:=(heq ok w a a da da p2 p2 p4 p4 (by rw [p3];exact f1) (by rw [p3];exact f1)).2 em
   rw [List.drop_drop] at f2
   have ih:=oC (em:=em) hrec hx fs (off+k1.length) k2 hk2 (by omega) f2
   simp only [List.forIn_cons,hname,ne_eq,not_false_eq_true,if_true,Sem.run_bind,hoff,p1,Result.andThen_ok,this,Sem.run_pure]
   exact ih
def abk:TypeDesc→Bool
 | .struct _ | .array _ _=>true
 | _=>false
theorem zh (d:Nat):∀ (m t:Nat) (ks:List SK),uS P m t=some ks→abD P (d+m) t ks
 | 0,_,_,h=>by simp [uS] at h
 | m+1,t,ks,h=>by
   intro ok w vx vy x y hx hy sx sy fx fy
   have h0:=h
   unfold uS at h
   cases hu:P.underlying t with
   | none=>rw [hu] at h;cases h
   | some td=>
     rw [hu] at h
     have hagg:lT P t=abk td:=by unfold lT;rw [hu];cases td<;>rfl
     cases td<;>simp only at h<;>try (cases h;done)
     case bool=>
      cases h
      simp only [Shape,hagg,abk,Bool.not_false] at sx sy
      cases x<;>simp [D.one,D.cells,fK,iC] at sx fx
      cases y<;>simp [D.one,D.cells,fK,iC] at sy fy
      cases hx;cases hy
      refine ⟨?_,fun em=>?_⟩
      ·show (Op.equalIn (d+m+1) t _ _).run P w=_
       simp [Op.equalIn,run_underlying hu,D.cells,aW,eq1]
      ·show (Instr.checkKey em (d+m+1) t _).run P w=_
       simp [Instr.checkKey,run_underlying hu]
     case int k=>
      cases h
      simp only [Shape,hagg,abk,Bool.not_false] at sx sy
      cases x<;>simp [D.one,D.cells,fK] at sx fx<;>try (simp [iC] at fx;done)
      cases y<;>simp [D.one,D.cells,fK] at sy fy<;>try (simp [iC] at fy;done)
      rename_i kx nx ky ny
      have ekx:k=kx:=oL (n:=nx) (by split at fx;assumption;cases fx)
      have eky:k=ky:=oL (n:=ny) (by split at fy;assumption;cases fy)
      subst ekx;subst eky
      cases hx;cases hy
      refine ⟨?_,fun em=>?_⟩
      ·show (Op.equalIn (d+m+1) t _ _).run P w=_
       simp [Op.equalIn,run_underlying hu,D.cells,aW,eq1]
      ·show (Instr.checkKey em (d+m+1) t _).run P w=_
       simp [Instr.checkKey,run_underlying hu]
     case string=>
      cases h
      simp only [Shape,hagg,abk,Bool.not_false] at sx sy
      cases x<;>simp [D.one,D.cells,fK,iC] at sx fx
      cases y<;>simp [D.one,D.cells,fK,iC] at sy fy
      rename_i a b
      cases hx;cases hy
      have ea:(⟨a.toArray⟩:ByteArray).toList=a:=by rw [ByteArray.toList_eq]
      have eb:(⟨b.toArray⟩:ByteArray).toList=b:=by rw [ByteArray.toList_eq]
      refine ⟨?_,fun em=>?_⟩
      ·show (Op.equalIn (d+m+1) t _ _).run P w=_
       simp [Op.equalIn,run_underlying hu,D.cells,aW,eq1,beq_toListBytes,ea,eb]
      ·show (Instr.checkKey em (d+m+1) t _).run P w=_
       simp [Instr.checkKey,run_underlying hu]
     case struct fs=>
      split at h
      ·cases h
      rename_i hst
      simp only [Shape,hagg,abk,Bool.not_true] at sx sy
      cases x<;>simp [D.one] at sx
      cases y<;>simp [D.one] at sy
      rename_i cx cy
      cases vx<;>first | (cases hx;done) | skip
      cases vy<;>first | (cases hy;done) | skip
      rename_i xs ys
      have hfs:P.fieldsOf t=fs:=by simp [Program.fieldsOf,hu]
      have hrec:∀ t ks,uS P m t=some ks→abD P (d+m) t ks∧(∃ d,P.underlying t=some d)∧(lT P t=false→ks.length=1):=fun t ks h=>⟨zh d m t ks h,Wy h,WA h⟩
      have key:=uf hrec hx hy fs.toList 0 ks h (by omega) (by omega) (by simpa [D.cells] using fx) (by simpa [D.cells] using fy)
      refine ⟨?_,fun em=>?_⟩
      ·show (Op.equalIn (d+m+1) t _ _).run P w=_
       rw [run_equalIn_struct w (d+m) t xs ys (by rw [hfs];exact hu) (by simpa using hst),hfs]
       simpa [D.cells] using key
      ·show (Instr.checkKey em (d+m+1) t _).run P w=_
       have key2:=oC (em:=em) hrec hx fs.toList 0 ks h (by omega) (by simpa [D.cells] using fx)
       rw [Instr.checkKey]
       simp only [Sem.run_bind,run_underlying hu,Result.andThen_ok]
       rw [← Array.forIn_toList]
       simp at key2 ⊢
       rw [key2]
       rfl
end
def uT (b:Bool) (p q:Prop):Prop:=match b with | true=>p | false=>q
theorem oz {b:Bool} {p q:Prop} (h:uT b p q):(b=true∧p)∨(b=false∧q):=by cases b<;>first | exact .inl ⟨rfl,h⟩ | exact .inr ⟨rfl,h⟩
def dL (k k':IntKind) (p:Prop):Prop:=match decEq k k' with | .isTrue _=>p | .isFalse _=>False
theorem bM {k k':IntKind} {p:Prop} (h:dL k k' p):k=k'∧p:=by
 unfold dL at h;split at h
 ·exact ⟨by assumption,h⟩
 ·exact h.elim
def arith (k:IntKind) (n:Int) (K:Int→Prop):Prop:=
 match k with
 | .i64=>(-9223372036854775808≤n∧n≤9223372036854775807)∧K n
 | k=>K (k.wrap n)
theorem zy {n:Int} (h:-9223372036854775808≤n∧n≤9223372036854775807):IntKind.i64.wrap n=n:=by
 unfold IntKind.wrap
 simp [IntKind.bits,IntKind.signed]
 omega
theorem jv {k:IntKind} {n:Int} {K:Int→Prop} (h:arith k n K):K (k.wrap n):=by
 cases k<;>first | exact h | (obtain ⟨h1,h2⟩:=h;rw [zy h1];exact h2)
def bitsOf (op:BinOp) (k:IntKind) (x y:Int):Int:=
 let a:=BitVec.ofInt k.bits x
 let b:=BitVec.ofInt k.bits y
 match op with
 | .and=>k.wrap (a &&& b).toNat
 | .or=>k.wrap (a ||| b).toNat
 | .xor=>k.wrap (a ^^^ b).toNat
 | _=>k.wrap (a &&& ~~~b).toNat
def P7 (op:BinOp) (k:IntKind) (a:Int) (k':IntKind) (b:Int) (K:D→Prop):Prop:=
 match op with
 | .shl=>0≤b∧K (.int k (k.wrap (a*2 ^ (min b.toNat k.bits))))
 | .shr=>0≤b∧K (.int k (a.fdiv (2 ^ (min b.toNat k.bits))))
 | .add=>dL k k' (arith k (a+b) fun n=>K (.int k n))
 | .sub=>dL k k' (arith k (a-b) fun n=>K (.int k n))
 | .mul=>dL k k' (arith k (a*b) fun n=>K (.int k n))
 | .quo=>dL k k' (b≠0∧arith k (a.tdiv b) fun n=>K (.int k n))
 | .rem=>dL k k' (b≠0∧K (.int k (a.tmod b)))
 | .and | .or | .xor | .andNot=>dL k k' (K (.int k (bitsOf op k a b)))
 | .eql=>dL k k' (K (.bool (a==b)))
 | .neq=>dL k k' (K (.bool (a != b)))
 | .lss=>dL k k' (K (.bool (decide (a<b))))
 | .leq=>dL k k' (K (.bool (decide (a≤b))))
 | .gtr=>dL k k' (K (.bool (decide (a>b))))
 | .geq=>dL k k' (K (.bool (decide (a≥b))))
def P6 (op:BinOp) (a b:List UInt8) (K:D→Prop):Prop:=
 match op with
 | .add=>a.length+b.length≤maxLen∧K (.str (a++b))
 | .eql=>K (.bool (a==b))
 | .neq=>K (.bool (!(a==b)))
 | .lss=>K (.bool (Op.bytesLess a b))
 | .leq=>K (.bool (Op.bytesLess a b||a==b))
 | .gtr=>K (.bool (!(Op.bytesLess a b||a==b)))
 | .geq=>K (.bool (!Op.bytesLess a b))
 | _=>False
def KD (op:BinOp) (a b:Bool) (K:D→Prop):Prop:=
 match op with
 | .eql=>K (.bool (a==b))
 | .neq=>K (.bool (!(a==b)))
 | _=>False
def rG (op:BinOp) (nil:Bool) (K:D→Prop):Prop:=
 match op with
 | .eql=>K (.bool nil)
 | .neq=>K (.bool (!nil))
 | _=>False
section
variable {P:Program} {T:Nat→TE} {ok:Nat→Prop} {w:World}
theorem pW (op:BinOp) (t:Nat) (x y:Operand) (k k':IntKind) (a b:Int):(eqGuard op t x y (.int k a) (.int k' b)).run P w = .ok () w:=by
 cases op<;>rfl
theorem pV (op:BinOp) (t:Nat) (x y:Operand) (a b:ByteArray):(eqGuard op t x y (.string a) (.string b)).run P w = .ok () w:=by
 cases op<;>rfl
theorem jk (op:BinOp) (t:Nat) (x y:Operand) (a b:Bool):(eqGuard op t x y (.bool a) (.bool b)).run P w = .ok () w:=by
 cases op<;>rfl
theorem dS (op:BinOp) (t:Nat) (x y:Operand) (a b:Option Addr):(eqGuard op t x y (.pointer a) (.pointer b)).run P w = .ok () w:=by
 cases op<;>rfl
theorem Ov (op:BinOp) (t:Nat) (k k':IntKind) (a b:Int) {K:D→Prop} (h:P7 op k a k' b K) :
  ∃ d v,(binOp op t (.int k a) (.int k' b)).run P w = .ok v w∧RdD ok w v d∧K d:=by
 cases op with
 | shl=>
   have hb:¬ b<0:=by have:=h.1;omega
   exact ⟨_,.int k (k.wrap (a*2 ^ (min b.toNat k.bits))),by simp [binOp,Op.shift,hb],.int _ _,h.2⟩
 | shr=>
   have hb:¬ b<0:=by have:=h.1;omega
   exact ⟨_,.int k (a.fdiv (2 ^ (min b.toNat k.bits))),by simp [binOp,Op.shift,hb],.int _ _,h.2⟩
 | add=>
   obtain ⟨hk,h'⟩:=bM h;subst hk
   exact ⟨.int k (k.wrap (a+b)),.int k (k.wrap (a+b)),by simp [binOp,Op.intArith],.int _ _,jv h'⟩
 | sub=>
   obtain ⟨hk,h'⟩:=bM h;subst hk
   exact ⟨.int k (k.wrap (a-b)),.int k (k.wrap (a-b)),by simp [binOp,Op.intArith],.int _ _,jv h'⟩
 | mul=>
   obtain ⟨hk,h'⟩:=bM h;subst hk
   exact ⟨.int k (k.wrap (a*b)),.int k (k.wrap (a*b)),by simp [binOp,Op.intArith],.int _ _,jv h'⟩
 | quo=>
   obtain ⟨hk,h'⟩:=bM h;subst hk
   exact ⟨.int k (k.wrap (a.tdiv b)),.int k (k.wrap (a.tdiv b)),by simp [binOp,Op.intDiv,h'.1],.int _ _,jv h'.2⟩
 | rem=>
   obtain ⟨hk,h'⟩:=bM h;subst hk
   exact ⟨_,.int k (a.tmod b),by simp [binOp,Op.intDiv,h'.1],.int _ _,h'.2⟩
 | and=>
   obtain ⟨hk,h'⟩:=bM h;subst hk
   exact ⟨_,.int k (bitsOf .and k a b),by simp [binOp,Op.intBits,bitsOf],.int _ _,h'⟩
 | or=>
   obtain ⟨hk,h'⟩:=bM h;subst hk
   exact ⟨_,.int k (bitsOf .or k a b),by simp [binOp,Op.intBits,bitsOf],.int _ _,h'⟩
 | xor=>
   obtain ⟨hk,h'⟩:=bM h;subst hk
   exact ⟨_,.int k (bitsOf .xor k a b),by simp [binOp,Op.intBits,bitsOf],.int _ _,h'⟩
 | andNot=>
   obtain ⟨hk,h'⟩:=bM h;subst hk
   exact ⟨_,.int k (bitsOf .andNot k a b),by simp [binOp,Op.intBits,bitsOf],.int _ _,h'⟩
 | eql=>
   obtain ⟨hk,h'⟩:=bM h;subst hk
   exact ⟨_,.bool (a==b),by simp [binOp,Op.intCmp],.bool _,h'⟩
 | neq=>
   obtain ⟨hk,h'⟩:=bM h;subst hk
   exact ⟨_,.bool (a != b),by simp [binOp,Op.intCmp],.bool _,h'⟩
 | lss=>
   obtain ⟨hk,h'⟩:=bM h;subst hk
   exact ⟨_,.bool (decide (a<b)),by simp [binOp,Op.intCmp],.bool _,h'⟩
 | leq=>
   obtain ⟨hk,h'⟩:=bM h;subst hk
   exact ⟨_,.bool (decide (a≤b)),by simp [binOp,Op.intCmp],.bool _,h'⟩
 | gtr=>
   obtain ⟨hk,h'⟩:=bM h;subst hk
   exact ⟨_,.bool (decide (a>b)),by simp [binOp,Op.intCmp],.bool _,h'⟩
 | geq=>
   obtain ⟨hk,h'⟩:=bM h;subst hk
   exact ⟨_,.bool (decide (a≥b)),by simp [binOp,Op.intCmp],.bool _,h'⟩
theorem Ou (op:BinOp) (t:Nat) (a b:List UInt8) {K:D→Prop} (h:P6 op a b K) :
  ∃ d v,(binOp op t (.string ⟨a.toArray⟩) (.string ⟨b.toArray⟩)).run P w = .ok v w∧RdD ok w v d∧K d:=by
 have ea:(⟨a.toArray⟩:ByteArray).toList=a:=by rw [ByteArray.toList_eq]
 have eb:(⟨b.toArray⟩:ByteArray).toList=b:=by rw [ByteArray.toList_eq]
 cases op with
 | add=>
   obtain ⟨h1,h2⟩:=h
   refine ⟨_,.string ⟨(a++b).toArray⟩,?_,.str _ (by simpa using h1),h2⟩
   have e:(⟨a.toArray⟩:ByteArray)++⟨b.toArray⟩=⟨(a++b).toArray⟩:=by
    apply ByteArray.ext;simp
   have hn:¬ ((9223372036854775807:Int)<((⟨a.toArray⟩:ByteArray).size+(⟨b.toArray⟩:ByteArray).size:Int)):=by
    simp [ByteArray.size,maxLen] at h1 ⊢;omega
   have hm:IntKind.i64.max=9223372036854775807:=by decide
   simp [binOp,Op.stringOp,e,hm,hn]
 | eql=>exact ⟨_,.bool (a==b),by simp [binOp,Op.stringOp,ea,eb],.bool _,h⟩
 | neq=>exact ⟨_,.bool (!(a==b)),by simp [binOp,Op.stringOp,ea,eb],.bool _,h⟩
 | lss=>exact ⟨_,.bool (Op.bytesLess a b),by simp [binOp,Op.stringOp,ea,eb],.bool _,h⟩
 | leq=>exact ⟨_,.bool (Op.bytesLess a b||a==b),by simp [binOp,Op.stringOp,ea,eb],.bool _,h⟩
 | gtr=>exact ⟨_,.bool (!(Op.bytesLess a b||a==b)),by simp [binOp,Op.stringOp,ea,eb],.bool _,h⟩
 | geq=>exact ⟨_,.bool (!Op.bytesLess a b),by simp [binOp,Op.stringOp,ea,eb],.bool _,h⟩
 | sub=>exact h.elim
 | mul=>exact h.elim
 | quo=>exact h.elim
 | rem=>exact h.elim
 | and=>exact h.elim
 | or=>exact h.elim
 | xor=>exact h.elim
 | andNot=>exact h.elim
 | shl=>exact h.elim
 | shr=>exact h.elim
theorem run_equalIn_bool (n:Nat) {t:Nat} (hu:P.underlying t=some .bool) (a b:Bool):(Op.equalIn (n+1) t (.bool a) (.bool b)).run P w = .ok (a==b) w:=by
 simp [Op.equalIn,run_underlying hu]
theorem Am (n:Nat) {t e:Nat} (hu:P.underlying t=some (.pointer e)) (a b:Option Addr) (h0:a=none∨b=none) :
  (Op.equalIn (n+1) t (.pointer a) (.pointer b)).run P w = .ok (a.isNone&&b.isNone) w:=by
 cases a with
 | none=>simp [Op.equalIn,run_underlying hu]
 | some a=>cases b with
   | none=>simp [Op.equalIn,run_underlying hu]
   | some b=>simp at h0
theorem run_equal_bool (hT:TOK P T) {t:Nat} (hk:(T t).k = .bool) (a b:Bool):(Op.equal t (.bool a) (.bool b)).run P w = .ok (a==b) w:=by
 obtain ⟨d,inf,h⟩:=hT.facts (t:=t) (by rw [hk];intro e;cases e)
 have hd:=h.k
 rw [hk] at hd
 have hu:P.underlying t=some .bool:=by rw [jB.2.2.1 hd.symm] at h;exact h.und
 exact run_equalIn_bool 9999 hu a b
theorem iE (hT:TOK P T) {t:Nat} (hk:(T t).k = .ptr) (a b:Option Addr) (h0:a=none∨b=none):(Op.equal t (.pointer a) (.pointer b)).run P w = .ok (a.isNone&&b.isNone) w:=by
 obtain ⟨d,inf,h⟩:=hT.facts (t:=t) (by rw [hk];intro e;cases e)
 have hd:=h.k
 rw [hk] at hd
 have hu:∃ e,P.underlying t=some (.pointer e):=by
  obtain ⟨e,rfl⟩:=jB.2.2.2.2.1 hd.symm
  exact ⟨e,h.und⟩
 obtain ⟨e,hu⟩:=hu
 exact Am 9999 hu a b h0
def abb (op:BinOp) (tk:TK) (x y:D) (K:D→Prop):Prop:=
 match tk with
 | .int _=>asInt x fun k a=>asInt y fun k' b=>P7 op k a k' b K
 | .str=>gq x fun a=>gq y fun b=>P6 op a b K
 | .bool=>asBool x fun a=>asBool y fun b=>KD op a b K
 | .ptr=>match x,y with
   | .dN,.dN=>rG op true K
   | .dN,.ref _ _=>rG op false K
   | .ref _ _,.dN=>rG op false K
   | _,_=>False
 | _=>False
theorem WI (hT:TOK P T) (op:BinOp) (t:Nat) {x y:D} {vx vy:Value} (hx:RdD ok w vx x) (hy:RdD ok w vy y) {K:D→Prop} (h:abb op (T t).k x y K) (ox oy:Operand) :
  ∃ d v,(do eqGuard op t ox oy vx vy;binOp op t vx vy).run P w = .ok v w∧RdD ok w v d∧K d:=by
 cases hk:(T t).k<;>rw [hk] at h<;>simp only [abb] at h<;>try exact h.elim
 case int k=>
  obtain ⟨k,a,rfl,h2⟩:=fF h
  obtain ⟨k',b,rfl,h3⟩:=fF h2
  cases hx;cases hy
  obtain ⟨d,v,h1,h2⟩:=Ov (P:=P) (ok:=ok) (w:=w) op t k k' a b h3
  exact ⟨d,v,by simp [pW,h1],h2⟩
 case str=>
  obtain ⟨a,rfl,h2⟩:=gJ h
  obtain ⟨b,rfl,h3⟩:=gJ h2
  cases hx;cases hy
  obtain ⟨d,v,h1,h2⟩:=Ou (P:=P) (ok:=ok) (w:=w) op t a b h3
  exact ⟨d,v,by simp [pV,h1],h2⟩
 case bool=>
  obtain ⟨a,rfl,h2⟩:=gQ h
  obtain ⟨b,rfl,h3⟩:=gQ h2
  cases hx;cases hy
  have he:=run_equal_bool (w:=w) hT hk a b
  cases op<;>simp only [KD] at h3<;>try exact h3.elim
  ·exact ⟨_,.bool (a==b),by simp [jk,binOp,he],.bool _,h3⟩
  ·exact ⟨_,.bool (!(a==b)),by simp [jk,binOp,he],.bool _,h3⟩
 case ptr=>
  have key:∀ (a b:Option Addr) (nil:Bool),a=none∨b=none→(a.isNone&&b.isNone)=nil→rG op nil K →
    ∃ d v,(do eqGuard op t ox oy (.pointer a) (.pointer b);binOp op t (.pointer a) (.pointer b)).run P w = .ok v w∧RdD ok w v d∧K d:=fun a b nil h0 hn h=>by
   have he:=iE (w:=w) hT hk a b h0
   rw [hn] at he
   cases op<;>simp only [rG] at h<;>try exact h.elim
   ·exact ⟨_,.bool nil,by simp [dS,binOp,he],.bool _,h⟩
   ·exact ⟨_,.bool (!nil),by simp [dS,binOp,he],.bool _,h⟩
  cases x<;>cases y<;>simp only at h<;>try exact h.elim
  ·cases hx;cases hy;exact key _ _ false (.inr rfl) rfl h
  ·cases hx;cases hy;exact key _ _ false (.inl rfl) rfl h
  ·cases hx;cases hy;exact key _ _ true (.inl rfl) rfl h
def unD (op:UnOp) (x:D) (K:D→Prop):Prop:=
 match op with
 | .not=>asBool x fun b=>K (.bool (!b))
 | .neg=>asInt x fun k n=>arith k (0-n) fun n=>K (.int k n)
 | _=>False
theorem abR (op:UnOp) {x:D} {v:Value} (hx:RdD ok w v x) {K:D→Prop} (h:unD op x K):∃ d v',(Op.unary op v).run P w = .ok v' w∧RdD ok w v' d∧K d:=by
 cases op<;>simp only [unD] at h<;>try exact h.elim
 ·obtain ⟨k,n,rfl,h2⟩:=fF h
  cases hx
  exact ⟨.int k (k.wrap (0-n)),.int k (k.wrap (0-n)),by simp [Op.unary,Op.intArith],.int _ _,jv h2⟩
 ·obtain ⟨b,rfl,h2⟩:=gQ h
  cases hx
  exact ⟨_,.bool (!b),by simp [Op.unary],.bool _,h2⟩
def Hw (src dst:TK) (x:D) (K:D→Prop):Prop:=
 match src,dst with
 | .int _,.int k=>asInt x fun _ n=>arith k n fun n=>K (.int k n)
 | _,_=>False
theorem TOK.int (hT:TOK P T) {t:Nat} {k:IntKind} (hk:(T t).k = .int k):P.underlying t=some (.int k):=by
 obtain ⟨d,i,h⟩:=hT.facts (t:=t) (by rw [hk];intro e;cases e)
 have hd:=h.k
 rw [hk] at hd
 rw [jB.2.2.2.1 k hd.symm] at h
 exact h.und
theorem U2 (hT:TOK P T) {src dst:Nat} {x:D} {v:Value} (hx:RdD ok w v x) {K:D→Prop} (h:Hw (T src).k (T dst).k x K) :
  ∃ d v',(convert src dst v).run P w = .ok v' w∧RdD ok w v' d∧K d:=by
 cases h1:(T src).k<;>cases h2:(T dst).k<;>rw [h1,h2] at h<;>simp only [Hw] at h<;>try exact h.elim
 rename_i k1 k2
 obtain ⟨k,n,rfl,h3⟩:=fF h
 cases hx
 exact ⟨.int k2 (k2.wrap n),.int k2 (k2.wrap n),by simp [convert,run_underlying (hT.int h1),run_underlying (hT.int h2),Conv.intToInt],.int _ _,jv h3⟩
end
def lS (id:Nat):Nat→List V→List (Key×Option Res)
 | _,[]=>[]
 | off,x::r=>((id,off),some (.cell x))::lS id (off+1) r
theorem gy (id:Nat) (k:Key) (r:Option Res):∀ (xs:List V) (off:Nat),(k,r)∈lS id off xs↔∃ j x,xs[j]?=some x∧k=(id,off+j)∧r=some (.cell x)
 | [],off=>by simp [lS]
 | x::xs,off=>by
   simp only [lS,List.mem_cons,gy id k r xs (off+1),Prod.mk.injEq]
   constructor
   ·rintro (⟨rfl,rfl⟩ | ⟨j,y,h1,h2,h3⟩)
    ·exact ⟨0,x,rfl,rfl,rfl⟩
    ·exact ⟨j+1,y,by simpa using h1,by rw [h2];congr 1;omega,h3⟩
   ·rintro ⟨j,y,h1,h2,h3⟩
    cases j with
    | zero=>simp at h1;subst h1;exact .inl ⟨by simpa using h2,h3⟩
    | succ j=>exact .inr ⟨j,y,by simpa using h1,by rw [h2];congr 1;omega,h3⟩
def ghost (β:Nat→Value) (id:Nat) (v:Value):Nat→Value:=fun i=>if i=id then v else β i
theorem kU {β:Nat→Value} {id:Nat} {v:Value} {u:Nat→Prop} (h:¬ u id) (i:Nat) (hi:u i):ghost β id v i=β i:=by
 unfold ghost;rw [if_neg (fun e:i=id=>h (e ▸ hi))]
theorem bn (β:Nat→Value) (id:Nat) (v:Value):ghost β id v id=v:=by simp [ghost]
section
variable {C:Ctx} {β:Nat→Value} {ok:Nat→Prop} {s:S} {a:Act} {w:World}
theorem RelB.size_le (h:RelB C β ok s a w):C.w0.heap.size≤w.heap.size:=h.frame.size
theorem RelB.sZ (h:RelB C β ok s a w) {β':Nat→Value} (hβ:∀ i,s.used i→β' i=β i) (o:Obj) {k:Key} {r:Res} (hr:s.hp k=some r) {b:Nat} (hb:Blk β' (w.alloc o) k r b):Blk β w k r b:=
 Blk.mono (hβ k.1 (h.heap k r hr).1) (fun b hb=>heap_alloc_old w o b (h.sep k r b hr hb).2.1) hb
theorem Blk.cell {k:Key} {x:V} {b:Nat} (h:Blk β w k (.cell x) b):aN (β k.1)=some b:=h.elim id (fun h=>h.elim)
theorem Blk.arr {k:Key} {sz:Nat} {xs:List D} {b:Nat} (h:Blk β w k (.arr sz xs) b):aN (β k.1)=some b:=h.elim id (fun h=>h.elim)
theorem RelB.L6 (h:RelB C β ok s a w) {dst:Option Tmp} (hd:∀ d,dst=some d→d<C.nt) {id:Nat} (hid:¬ s.used id) {cells:Array Value} (t:TypeId) {xs:List V}
  (hl:cells.size=xs.length) (hx:∀ (j:Nat) v x,cells[j]?=some v→xs[j]?=some x→RdV β s.used ok w v x∧v.oneCell'=true) :
  ∃ β',RelB C β' ok (s.apply dst (.ptr id 0) (lS id 0 xs) [id]) (a.put dst (.pointer (some ⟨w.heap.size,0,none⟩))) (w.alloc (.cells cells t)):=by
 have hsz:=h.size_le
 have hβ:=kU (β:=β) (v := .pointer (some ⟨w.heap.size,0,none⟩)) hid
 have hk:=gB h.okb (.cells cells t)
 refine ⟨ghost β id (.pointer (some ⟨w.heap.size,0,none⟩)),h.step hd hβ (fun _ h=>h) hk (.ptr id 0 w.heap.size (.inr (by simp)) (bn _ _ _)) (fun k r hr _ b hb=>?_) (fun k r hm=>?_) (fun k k' r r' b hm hr hb hb'=>?_)
  (fun b hb=>by have:=h.okb b hb;simp;omega) (fun b hb => .inl hb) (h.frame.alloc _)⟩
 ·have:=h.sep k r b hr hb
  exact ⟨⟨this.1,by simp;omega⟩,.inl (heap_alloc_old w _ b this.2.1)⟩
 ·obtain ⟨j,x,h1,rfl,h3⟩:=(gy id k _ xs 0).1 hm
  cases h3
  have hj:j<cells.size:=by rw [hl];exact (List.getElem?_eq_some_iff.1 h1).1
  have hv:cells[j]?=some cells[j]:=by simp [hj]
  obtain ⟨h4,h5⟩:=hx j _ x hv h1
  refine ⟨.inr (by simp),⟨w.heap.size,cells,t,cells[j],bn _ _ _,heap_alloc_new w _,by simp [hj],h5,h4.mono hβ (fun i hi => .inl hi) hk (fun _ h=>h)⟩,fun b hb=>?_⟩
  have hb:=hb.cell
  simp only [bn,aN,Option.some.injEq] at hb
  subst hb
  exact ⟨fun hc=>by have:=h.okb _ hc;omega,by simp,fun hc=>by omega⟩
 ·obtain ⟨j,x,h1,rfl,h3⟩:=(gy id k _ xs 0).1 hm
  cases h3
  have hb:=hb.cell
  simp only [bn,aN,Option.some.injEq] at hb
  subst hb
  rcases dP s.hp (lS id 0 xs) k' with ⟨e,hno⟩ | ⟨r0,hm',e⟩
  ·have hr':s.hp k'=some r':=e.symm.trans hr
   have:=(h.sep k' r' _ hr' (h.sZ hβ _ hr' hb')).2.1
   omega
  ·obtain ⟨j',x',h1',h2',_⟩:=(gy id k' _ xs 0).1 hm'
   rw [h2']
theorem ku {wr:Nat→Nat→Prop} {w0 w:World} (h:Frame wr w0 w) {b:Nat} {cur new:Array Value} {T:TypeId} (hb:w.heap[b]?=some (.cells cur T (0,0))) (hs:new.size=cur.size)
  (hw:b<w0.heap.size→∀ o,¬ wr b o→new[o]?=cur[o]?) (hw':b<w0.heap.size→∃ o,wr b o):Frame wr w0 (w.setRow b new):=by
 refine ⟨h.os,h.tape,h.output,by rw [size_setRow];exact h.size,fun b' hb' hn=>?_,fun b' c T' fz hc=>?_⟩
 ·by_cases e:b'=b
  ·subst e
   obtain ⟨o,ho⟩:=hw' hb'
   exact absurd ho (hn o)
  ·rw [setRow_other w b b' new e];exact h.blk b' hb' hn
 ·obtain ⟨c',h1,h2,h3⟩:=h.cel b' c T' fz hc
  by_cases e:b'=b
  ·subst e
   rw [hb] at h1
   simp only [Option.some.injEq,Obj.cells.injEq] at h1
   obtain ⟨rfl,rfl,rfl⟩:=h1
   exact ⟨new,setRow_heap w b' cur new T (0,0) hb,by rw [hs,h2],fun o ho=>by rw [hw (Array.getElem?_eq_some_iff.1 hc).1 o ho];exact h3 o ho⟩
  ·exact ⟨c',by rw [setRow_other w b b' new e];exact h1,h2,h3⟩
theorem xu {b:Nat} {new:Array Value} (hn:¬ ok b):Keeps ok w (w.setRow b new):=fun b' hb'=>setRow_other w b b' new (fun e=>hn (e ▸ hb'))
def patch (cur:Array Value) (o:Nat) (vs:List Value):Array Value:=(cur.toList.take o++vs++cur.toList.drop (o+vs.length)).toArray
theorem size_patch {cur:Array Value} {o:Nat} {vs:List Value} (h:o+vs.length≤cur.size):(patch cur o vs).size=cur.size:=by
 simp [patch];omega
theorem patch_out {cur:Array Value} {o:Nat} {vs:List Value} (h:o+vs.length≤cur.size) {i:Nat} (hi:i<o∨o+vs.length≤i):(patch cur o vs)[i]?=cur[i]?:=by
 simp only [patch,List.getElem?_toArray]
 rcases hi with hi | hi
 ·rw [List.append_assoc,List.getElem?_append_left (by simp;omega),List.getElem?_take_of_lt hi];simp
 ·rw [List.getElem?_append_right (by simp;omega),List.getElem?_drop]
  simp only [List.length_append,List.length_take,Array.length_toList]
  rw [show o+vs.length+(i-(min o cur.size+vs.length))=i by omega];simp
theorem patch_in {cur:Array Value} {o:Nat} {vs:List Value} (h:o+vs.length≤cur.size) {i:Nat} (hi:i<vs.length):(patch cur o vs)[o+i]?=vs[i]?:=by
 simp only [patch,List.getElem?_toArray]
 rw [List.append_assoc,List.getElem?_append_right (by simp;omega),List.getElem?_append_left (by simp;omega)]
 congr 1
 simp;omega
theorem RelB.AV (h:RelB C β ok s a w) {id off:Nat} {x0:V} (hx0:s.hp (id,off)=some (.cell x0)) {b:Nat} (hbl:aN (β id)=some b) {k:Key} {r:Res} (hr:s.hp k=some r) (hnc:∀ x,r ≠ .cell x) {b':Nat} (hb':Blk β w k r b'):b'≠b:=by
 intro e
 subst e
 have hid:k.1=id:=h.inj k (id,off) r _ b' hr hx0 hb' (.inl hbl)
 obtain ⟨_,_,_,_,_,e1,_⟩:=h.heap _ _ hx0
 obtain ⟨k1,k2⟩:=k
 simp only at hid e1
 subst hid
 obtain ⟨_,ho⟩:=h.heap _ _ hr
 cases r with
 | cell x=>exact hnc x rfl
 | arr sz ys=>
   obtain ⟨_,a',cap,f1,_⟩:=ho
   simp only at f1
   rw [e1] at f1;cases f1
 | map es=>
   obtain ⟨_,r',ents,clock,f1,_⟩:=ho
   simp only at f1
   rw [e1] at f1;cases f1
 | rows sz rs out=>
   obtain ⟨_,⟨a',cap,f1,_⟩,_⟩:=ho
   simp only at f1
   rw [e1] at f1;cases f1
theorem RelB.abd (h:RelB C β ok s a w) {id off:Nat} {x0:V} (hx0:s.hp (id,off)=some (.cell x0)) {b:Nat} (hbl:aN (β id)=some b) (new:Array Value) {k:Key} {r:Res} (hr:s.hp k=some r) {b':Nat} (hb':Blk β (w.setRow b new) k r b'):Blk β w k r b':=by
 by_cases hc:∃ x,r = .cell x
 ·obtain ⟨x,rfl⟩:=hc
  exact .inl hb'.cell
 ·exact Blk.mono rfl (fun c hc'=>setRow_other w b c new (h.AV hx0 hbl hr (fun x e=>hc ⟨x,e⟩) hc')) hb'
theorem RelB.storeCells (h:RelB C β ok s a w) {dst:Option Tmp} (hd:∀ d,dst=some d→d<C.nt) {id off:Nat} {xs:List V} (hne:xs≠[]) (hown:∀ j,j<xs.length→∃ x,s.hp (id,off+j)=some (.cell x))
  {vs:List Value} (hl:vs.length=xs.length) (hx:∀ (j:Nat) v x,vs[j]?=some v→xs[j]?=some x→RdV β s.used ok w v x∧v.oneCell'=true) (vd:Value) :
  ∃ b cur T,β id = .pointer (some ⟨b,0,none⟩)∧w.heap[b]?=some (.cells cur T (0,0))∧off+vs.length≤cur.size ∧
    RelB C β ok (s.apply dst .any (lS id off xs) []) (a.put dst vd) (w.setRow b (patch cur off vs)):=by
 have hpos:0<xs.length:=List.length_pos_iff.2 hne
 obtain ⟨x0,hx0⟩:=hown 0 hpos
 obtain ⟨hu0,b,cur,T,v0,e1,e2,e3,e4,e5⟩:=h.heap _ _ hx0
 have hbl:aN (β id)=some b:=by rw [show β id=_ from e1];rfl
 have hsep:=h.sep _ _ b hx0 (.inl hbl)
 have hcell:∀ j,j<xs.length→off+j<cur.size:=fun j hj=>by
  obtain ⟨x,hx⟩:=hown j hj
  obtain ⟨_,b',cur',T',v',f1,f2,f3,_,_⟩:=h.heap _ _ hx
  rw [show β id=_ from e1] at f1
  simp at f1
  subst f1
  rw [e2] at f2
  simp at f2
  obtain ⟨rfl,rfl⟩:=f2
  exact (Array.getElem?_eq_some_iff.1 f3).1
 have hfit:off+vs.length≤cur.size:=by have:=hcell (xs.length-1) (by omega);omega
 have hk:Keeps ok w (w.setRow b (patch cur off vs)):=xu hsep.1
 have hmono:∀ {v x},RdV β s.used ok w v x→RdV β (fun i=>s.used i∨i∈([]:List Nat)) ok (w.setRow b (patch cur off vs)) v x:=fun hv=>hv.mono (fun _ _=>rfl) (fun i hi => .inl hi) hk (fun _ h=>h)
 have hnewrow:=setRow_heap w b cur (patch cur off vs) T (0,0) e2
 refine ⟨b,cur,T,e1,e2,hfit,h.step hd (fun _ _=>rfl) (fun _ h=>h) hk (.any _) (fun k r hr hno b' hb'=>?_) (fun k r hm=>?_) (fun k k' r r' b' hm hr hb hb'=>?_)
  (fun b hb=>by rw [size_setRow];exact h.okb b hb) (fun b hb => .inl hb) (ku h.frame e2 (size_patch hfit) (fun hb0 o ho=>?_) (fun hb0=>⟨off,?_⟩))⟩
 ·have hs:=h.sep k r b' hr hb'
  refine ⟨⟨hs.1,by rw [size_setRow];exact hs.2.1⟩,?_⟩
  by_cases e:b'=b
  ·right
   subst e
   have hid:k.1=id:=h.inj k (id,off+0) r _ b' hr hx0 hb' (.inl hbl)
   cases r with
   | cell x=>
     obtain ⟨k1,k2⟩:=k
     simp only at hid
     subst hid
     obtain ⟨_,ho⟩:=h.heap _ _ hr
     refine ⟨⟨x,rfl⟩,?_⟩
     obtain ⟨b2,c2,T2,v2,f1,f2,f3,f4,f5⟩:=ho
     rw [show β k1=_ from e1] at f1
     simp at f1
     subst f1
     rw [e2] at f2
     simp at f2
     obtain ⟨rfl,rfl⟩:=f2
     refine ⟨b',patch cur off vs,T,v2,e1,hnewrow,?_,f4,hmono f5⟩
     rw [patch_out hfit]
     ·exact f3
     ·rcases Nat.lt_or_ge k2 off with hlt | hge
      ·exact .inl hlt
      ·rcases Nat.lt_or_ge k2 (off+vs.length) with hlt | hge'
       ·exfalso
        have hj:k2-off<xs.length:=by omega
        exact hno (some (.cell xs[k2-off])) ((gy k1 (k1,k2) _ xs off).2 ⟨k2-off,_,by simp [hj],by congr 1;omega,rfl⟩)
       ·exact .inr hge'
   | arr sz ys=>exact absurd rfl (h.AV hx0 hbl hr (fun x e=>by cases e) hb')
   | map es=>exact absurd rfl (h.AV hx0 hbl hr (fun x e=>by cases e) hb')
   | rows sz rs out=>exact absurd rfl (h.AV hx0 hbl hr (fun x e=>by cases e) hb')
  ·exact .inl (setRow_other w b b' _ e)
 ·obtain ⟨j,x,h1,rfl,h3⟩:=(gy id k _ xs off).1 hm
  cases h3
  have hj:j<xs.length:=(List.getElem?_eq_some_iff.1 h1).1
  have hv:vs[j]?=some vs[j]:=by simp
  obtain ⟨h4,h5⟩:=hx j _ x hv h1
  refine ⟨.inl hu0,⟨b,patch cur off vs,T,vs[j],e1,hnewrow,by simp only;rw [patch_in hfit (by omega)];exact hv,h5,hmono h4⟩,fun b' hb'=>?_⟩
  have hb':=hb'.cell
  simp only [hbl,Option.some.injEq] at hb'
  subst hb'
  refine ⟨hsep.1,by rw [size_setRow];exact hsep.2.1,fun hc=>?_⟩
  obtain ⟨x',hx'⟩:=hown j hj
  exact (h.sep _ _ b hx' (.inl hbl)).2.2 hc
 ·obtain ⟨j,x,h1,rfl,h3⟩:=(gy id k _ xs off).1 hm
  cases h3
  have hb:=hb.cell
  simp only [hbl,Option.some.injEq] at hb
  subst hb
  rcases dP s.hp (lS id off xs) k' with ⟨e,hno⟩ | ⟨r0,hm',e⟩
  ·have hr':s.hp k'=some r':=e.symm.trans hr
   exact (h.inj k' (id,off+0) r' _ b hr' hx0 (h.abd hx0 hbl _ hr' hb') (.inl hbl)).symm
  ·obtain ⟨j',x',h1',h2',_⟩:=(gy id k' _ xs off).1 hm'
   rw [h2']
 ·refine patch_out hfit ?_
  rcases Nat.lt_or_ge o off with hlt | hge
  ·exact .inl hlt
  ·rcases Nat.lt_or_ge o (off+vs.length) with hlt | hge'
   ·exfalso
    obtain ⟨x',hx'⟩:=hown (o-off) (by omega)
    have:=((h.sep _ _ b hx' (.inl hbl)).2.2 hb0).2
    simp only at this
    rw [show off+(o-off)=o by omega] at this
    exact ho this
   ·exact .inr hge'
 ·exact (hsep.2.2 hb0).2
end
section
variable {C:Ctx} {β:Nat→Value} {ok:Nat→Prop} {s:S} {a:Act} {w:World}
theorem RelB.other (h:RelB C β ok s a w) {id sz b:Nat} {xs:List D} (hr:s.hp (id,0)=some (.arr sz xs)) (hb:aN (β id)=some b) {k:Key} {r:Res} (hk:s.hp k=some r) (hne:k≠(id,0)):¬ Blk β w k r b:=by
 intro hb'
 have hid:=h.inj k (id,0) r _ b hk hr hb' (.inl hb)
 obtain ⟨k1,k2⟩:=k
 simp only at hid
 subst hid
 obtain ⟨_,ho⟩:=h.heap _ _ hk
 obtain ⟨_,_,a',cap,f1,_⟩:=h.heap _ _ hr
 cases r with
 | cell x=>obtain ⟨b2,c2,T2,v2,g1,_⟩:=ho;simp only at f1 g1;rw [f1] at g1;cases g1
 | arr sz' ys=>exact hne (by have:=ho.1;simp only at this;rw [this])
 | map es=>exact hne (by have:=ho.1;simp only at this;rw [this])
 | rows sz rs out=>exact hne (by have:=ho.1;simp only at this;rw [this])
theorem RelB.adh (h:RelB C β ok s a w) {id sz b:Nat} {xs:List D} (hr:s.hp (id,0)=some (.arr sz xs)) (hb:aN (β id)=some b) (new:Array Value) {k:Key} {r:Res} (hk:s.hp k=some r) {b':Nat} (hb':Blk β (w.setRow b new) k r b'):Blk β w k r b':=by
 by_cases hne:k=(id,0)
 ·subst hne
  rw [hr] at hk
  cases hk
  exact .inl hb'.arr
 ·exact Blk.mono rfl (fun c hc'=>setRow_other w b c new (fun e=>h.other hr hb hk hne (e ▸ hc'))) hb'
theorem O1 {i i' sz j off n:Nat} (hj:j<sz) (hn:off+n≤sz) (hne:i'≠i):i'*sz+j<i*sz+off∨i*sz+off+n≤i'*sz+j:=by
 rcases Nat.lt_or_ge i' i with h | h
 ·have:=Nat.mul_le_mul_right sz (show i'+1≤i by omega)
  rw [Nat.succ_mul] at this
  omega
 ·have:=Nat.mul_le_mul_right sz (show i+1≤i' by omega)
  rw [Nat.succ_mul] at this
  omega
theorem sS {i n sz off m:Nat} (hi:i<n) (hm:off+m≤sz):i*sz+off+m≤n*sz:=by
 have:=Nat.mul_le_mul_right sz (show i+1≤n by omega)
 rw [Nat.succ_mul] at this
 omega
theorem RelB.Ws (h:RelB C β ok s a w) {dst:Option Tmp} (hd:∀ d,dst=some d→d<C.nt) {id sz i off:Nat} {xs:List D} (hr:s.hp (id,0)=some (.arr sz xs)) {x x':D} (hx:xs[i]?=some x)
  {vs:List Value} (hlen:off+vs.length≤sz) (hx':x'.cells.length=sz)
  (hin:∀ (j:Nat) v c,vs[j]?=some v→x'.cells[off+j]?=some c→RdD ok w v c∧v.oneCell'=true∧c.one=true)
  (hout:∀ j,j<sz→j<off∨off+vs.length≤j→x'.cells[j]?=x.cells[j]?) (vd:Value) :
  ∃ b o cur T n cap,β id = .slice (some ⟨b,o,none⟩) n cap∧w.heap[b]?=some (.cells cur T (0,0))∧o+(i*sz+off)+vs.length≤cur.size ∧
    RelB C β ok (s.apply dst .any [((id,0),some (.arr sz (xs.set i x')))] []) (a.put dst vd) (w.setRow b (patch cur (o+(i*sz+off)) vs)):=by
 obtain ⟨hu0,_,a0,cap,e1,e2,e3,e4,e5,e6⟩:=h.heap _ _ hr
 have hi:i<xs.length:=(List.getElem?_eq_some_iff.1 hx).1
 obtain ⟨b,o,cur,T,rfl,f1,f2,f3⟩:=e6 (by omega)
 have hbl:aN (β id)=some b:=by rw [show β id=_ from e1];cases cap with
  | zero=>omega
  | succ n=>rfl
 have hsep:=h.sep _ _ b hr (.inl hbl)
 have hk:Keeps ok w (w.setRow b (patch cur (o+(i*sz+off)) vs)):=xu hsep.1
 have hfit:o+(i*sz+off)+vs.length≤cur.size:=by have:=sS (sz:=sz) (off:=off) (m:=vs.length) (show i<cap by omega) hlen;omega
 have hnewrow:=setRow_heap w b cur (patch cur (o+(i*sz+off)) vs) T (0,0) f1
 refine ⟨b,o,cur,T,_,cap,e1,f1,hfit,h.step hd (fun _ _=>rfl) (fun _ h=>h) hk (.any _) (fun k r hr' hno b' hb'=>?_) (fun k r hm=>?_) (fun k k' r r' b' hm hr' hb hb'=>?_)
  (fun b hb=>by rw [size_setRow];exact h.okb b hb) (fun b hb => .inl hb) (ku h.frame f1 (size_patch hfit) (fun hb0 o' ho=>?_) (fun hb0=>⟨0,?_⟩))⟩
 ·have hs:=h.sep k r b' hr' hb'
  refine ⟨⟨hs.1,by rw [size_setRow];exact hs.2.1⟩,.inl (setRow_other w b b' _ (fun e=>?_))⟩
  subst e
  exact h.other hr hbl hr' (fun e=>hno (some (.arr sz (xs.set i x'))) (by simp [e])) hb'
 ·simp at hm
  obtain ⟨rfl,rfl⟩:=hm
  refine ⟨.inl hu0,⟨rfl,_,cap,by simp only [List.length_set];exact e1,by simpa using e2,e3,e4,fun i' y hy=>?_,fun hc=>⟨b,o,_,T,rfl,hnewrow,by rw [size_patch hfit];exact f2,fun i' y j c hy hc=>?_⟩⟩,fun b' hb'=>?_⟩
  ·by_cases e:i=i'
   ·subst e;rw [List.getElem?_set_self hi] at hy;cases hy;exact hx'
   ·rw [List.getElem?_set_ne e] at hy;exact e5 i' y hy
  ·have hj:j<sz:=by
    have hw:y.cells.length=sz:=by
     by_cases e:i=i'
     ·subst e;rw [List.getElem?_set_self hi] at hy;cases hy;exact hx'
     ·rw [List.getElem?_set_ne e] at hy;exact e5 i' y hy
    rw [← hw];exact (List.getElem?_eq_some_iff.1 hc).1
   by_cases e:i=i'
   ·subst e
    rw [List.getElem?_set_self hi] at hy
    cases hy
    by_cases hjr:off≤j∧j<off+vs.length
    ·have hv:vs[j-off]?=some vs[j-off]:=by simp
     have hc':x'.cells[off+(j-off)]?=some c:=by rw [show off+(j-off)=j by omega];exact hc
     obtain ⟨g1,g2⟩:=hin _ _ c hv hc'
     refine ⟨vs[j-off],?_,g1.mono hk (fun _ h=>h),g2⟩
     rw [show o+(i*sz+j)=o+(i*sz+off)+(j-off) by omega,patch_in hfit (by omega)]
     exact hv
    ·have hc':x.cells[j]?=some c:=by rw [← hout j hj (by omega)];exact hc
     obtain ⟨u,g1,g2,g3⟩:=f3 i x j c hx hc'
     exact ⟨u,by rw [patch_out hfit (by omega)];exact g1,g2.mono hk (fun _ h=>h),g3⟩
   ·rw [List.getElem?_set_ne e] at hy
    obtain ⟨u,g1,g2,g3⟩:=f3 i' y j c hy hc
    refine ⟨u,?_,g2.mono hk (fun _ h=>h),g3⟩
    rw [patch_out hfit]
    ·exact g1
    ·have:=O1 (i:=i) (i':=i') hj hlen (Ne.symm e)
     omega
  ·have hb':=hb'.arr
   simp only [hbl,Option.some.injEq] at hb'
   subst hb'
   exact ⟨hsep.1,by rw [size_setRow];exact hsep.2.1,hsep.2.2⟩
 ·simp at hm
  obtain ⟨rfl,rfl⟩:=hm
  have hb:=hb.arr
  simp only [hbl,Option.some.injEq] at hb
  subst hb
  rcases dP s.hp [((id,0),some (Res.arr sz (xs.set i x')))] k' with ⟨e,hno⟩ | ⟨r0,hm',e⟩
  ·have h2:s.hp k'=some r':=e.symm.trans hr'
   exact (h.inj k' (id,0) r' _ b h2 hr (h.adh hr hbl _ h2 hb') (.inl hbl)).symm
  ·simp at hm'
   rw [hm'.1]
 ·exact absurd (hsep.2.2 hb0 o') ho
 ·exact hsep.2.2 hb0 0
end
section
variable {P:Program}
theorem lq (w:World) (t ty e:TypeId) (i:TypeInfo) (z:Value) (ht:P.underlying t=some (.slice e)) (hi:P.info? e=some i) (hz:i.zero=some z) (hzs:z.cells.size=i.size)
  (a0:Option Addr) (n cap:Nat) (hn:n≤cap) (b o:Nat) (cur:Array Value) (T:TypeId)
  (hb:0<cap→a0=some ⟨b,o,none⟩∧w.heap[b]?=some (.cells cur T (0,0))∧o+cap*i.size≤cur.size)
  (m cx:Nat) (ax:Option Addr) (news:List Value) (hl:news.length=m*i.size) (h1:∀ u∈news,u.oneCell'=true)
  (hx:0<m→∃ ad,ax=some ad∧∀ j u,news[j]?=some u→w.cell? (ad.add j)=some u) (h63:n+m≤maxLen) (hbytes:(n+m)*i.bytes≤140737488355328) :
  (n+m≤cap∧(Builtin.append_ #[t,t] ty #[.slice a0 n cap,.slice ax m cx]).run P w = .ok (.slice a0 (n+m) cap) (if 0<m then w.setRow b (patch cur (o+n*i.size) news) else w)) ∨
  (cap<n+m∧∃ cap' rest,n+m≤cap'∧cap'≤maxLen∧(n+m)*i.size+rest.size=cap'*i.size ∧
   (Builtin.append_ #[t,t] ty #[.slice a0 n cap,.slice ax m cx]).run P w =
    .ok (.slice (some ⟨w.heap.size,0,none⟩) (n+m) cap') (w.drew.alloc (.cells (((List.range (n*i.size)).map fun q=>(cur[o+q]?).getD undef).toArray++news.toArray++rest) e))):=by
 by_cases hroom:n+m≤cap
 ·left
  refine ⟨hroom,?_⟩
  rcases Nat.eq_zero_or_pos m with hm | hm
  ·subst hm
   have hnews:news=[]:=List.eq_nil_of_length_eq_zero (by simpa using hl)
   subst hnews
   simp only [Nat.lt_irrefl,if_false]
   cases ax with
   | none=>cases a0<;>simp [Builtin.append_,run_underlying ht,Go.sizeOf,typeInfo,hi,Builtin.lenOf,hn,Builtin.firstCells,Go.storeCells]
   | some ax=>
     have hf:=run_firstCells_some (P:=P) w i.size 0 ax 0 cx [] (by simp) (by simp)
     cases a0<;>simp [Builtin.append_,run_underlying ht,Go.sizeOf,typeInfo,hi,Builtin.lenOf,hn,hf,Go.storeCells]
  ·obtain ⟨ad,rfl,hcell⟩:=hx hm
   obtain ⟨rfl,hh,hs⟩:=hb (by omega)
   have hf:=run_firstCells_some (P:=P) w i.size m ad m cx news hl hcell
   have hfit:o+n*i.size+0+news.length≤cur.size:=by
    have:=Nat.mul_le_mul_right i.size hroom
    rw [Nat.add_mul] at this
    omega
   have hst:=run_storeCells_at P b (o+n*i.size) T news 0 cur w hh hfit h1
   simp only [Nat.add_zero] at hst
   simp [Builtin.append_,run_underlying ht,Go.sizeOf,typeInfo,hi,Builtin.lenOf,hroom,hf,Addr.add_lit,hst,hm,patch]
 ·right
  have hm:0<m:=by omega
  obtain ⟨ad,rfl,hcell⟩:=hx hm
  have hge:=grownCap_ge w (n+m) cap e
  have hcm:grownCap w (n+m) cap e≤maxLen:=grownCap_le_maxLen w (n+m) cap e h63
  have hsmall:n+m≤9223372036854775807:=by simp only [maxLen] at h63;omega
  refine ⟨by omega,grownCap w (n+m) cap e,Builtin.zeroCells z.cells (grownCap w (n+m) cap e-(n+m)),hge,hcm,?_,?_⟩
  ·rw [size_zeroCells,hzs,← Nat.add_mul];congr 1;omega
  ·rcases Nat.eq_zero_or_pos cap with hc | hc
   ·subst hc
    have hn0:n=0:=by omega
    subst hn0
    simp only [Nat.zero_add,Nat.zero_mul,List.range_zero,List.map_nil,Array.empty_append]
    cases a0 with
    | none=>
      have:=run_append_nil (P:=P) w t ty e i z ht hi hz ad m cx news hl hcell hm (by omega) (by rw [Nat.zero_add] at hbytes;omega)
      simpa using this
    | some a0=>
      have:=run_append_grow (P:=P) w t ty e i z ht hi hz a0 0 0 [] (by simp) (by simp) ad m cx news hl hcell (by omega) (by omega) (growslice_fits (by omega) hbytes)
      simpa using this
   ·obtain ⟨rfl,hh,hs⟩:=hb hc
    have holds:∀ j v,((List.range (n*i.size)).map fun q=>(cur[o+q]?).getD undef)[j]?=some v→w.cell? ((⟨b,o,none⟩:Addr).add j)=some v:=fun j v hv=>by
     simp only [List.getElem?_map,Option.map_eq_some_iff] at hv
     obtain ⟨q,hq,rfl⟩:=hv
     have hqlt:j<n*i.size:=by have:=(List.getElem?_eq_some_iff.1 hq).1;simpa using this
     have:q=j:=by have:=(List.getElem?_eq_some_iff.1 hq).2;simp at this;exact this.symm
     subst this
     have:=Nat.mul_le_mul_right i.size hn
     have hlt:o+q<cur.size:=by omega
     rw [Addr.add_lit,cell_of_row w b _ cur T (0,0) hh]
     simp [hlt]
    exact run_append_grow (P:=P) w t ty e i z ht hi hz ⟨b,o,none⟩ n cap _ (by simp) holds ad m cx news hl hcell (by omega) (by omega) (growslice_fits (by omega) hbytes)
end
theorem dI.sub {ok:Nat→Prop} {w:World} {β:Nat→Value} {u:Nat→Prop} {v:Value} {id sz off len:Nat} {xs:List D} (hv:RdV β u ok w v (.sl id sz off len)) (ho:dI ok w (β id) sz xs) (hl:off+len≤xs.length) :
  dI ok w v sz ((xs.drop off).take len)∧∀ b,aN v=some b→aN (β id)=some b:=by
 cases hv with
 | sl _ _ _ _ n cap a0 a h1 h2 h3 h3' h4=>
   obtain ⟨a1,cap1,g0,g1,g2,g3,g4,g5⟩:=ho
   rw [h2] at g0
   simp at g0
   obtain ⟨rfl,rfl,rfl⟩:=g0
   have hlen:((xs.drop off).take len).length=len:=by simp;omega
   have hget:∀ (i:Nat) x,((xs.drop off).take len)[i]?=some x→xs[off+i]?=some x∧i<len:=fun i x hx=>by
    have hi:i<len:=by rw [← hlen];exact (List.getElem?_eq_some_iff.1 hx).1
    rw [List.getElem?_take_of_lt hi,List.getElem?_drop] at hx
    exact ⟨hx,hi⟩
   refine ⟨⟨a,cap-off,by rw [hlen],by rw [hlen];omega,by omega,g3,fun i x hx=>g4 _ x (hget i x hx).1,fun hc=>?_⟩,fun b hb=>?_⟩
   ·obtain ⟨b,o,e1,e2⟩:=h4 (by omega)
    obtain ⟨b',o',cur,T,e3,e4,e5,e6⟩:=g5 (by omega)
    rw [e1] at e3
    simp at e3
    obtain ⟨rfl,rfl⟩:=e3
    refine ⟨b,o+off*sz,cur,T,e2,e4,?_,fun i x j c hx hc=>?_⟩
    ·have:=Nat.add_mul off (cap-off) sz
     rw [show off+(cap-off)=cap by omega] at this
     omega
    ·obtain ⟨u',f1,f2⟩:=e6 (off+i) x j c (hget i x hx).1 hc
     refine ⟨u',?_,f2⟩
     rw [← f1]
     congr 1
     rw [Nat.add_mul];omega
   ·rcases Nat.lt_or_ge off cap with hlt | hge
    ·obtain ⟨b',o,e1,e2⟩:=h4 hlt
     rw [e2] at hb
     rw [h2,e1]
     obtain ⟨c',hc'⟩:∃ c',cap-off=c'+1:=⟨cap-off-1,by omega⟩
     obtain ⟨c'',hc''⟩:∃ c'',cap=c''+1:=⟨cap-1,by omega⟩
     rw [hc'] at hb
     rw [hc'']
     exact hb
    ·rw [show cap-off=0 by omega] at hb
     cases a<;>simp [aN] at hb
section
variable {P:Program} {T:Nat→TE} {C:Ctx} {β:Nat→Value} {ok:Nat→Prop} {s:S} {a:Act} {w:World}
end
end Go.Abs
