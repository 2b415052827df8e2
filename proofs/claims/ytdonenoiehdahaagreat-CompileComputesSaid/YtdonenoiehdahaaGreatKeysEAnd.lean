/- maps.Keys' iterator, keys of the type Edge: every key once, in some order. -/
import Derived.Test.YtdonenoiehdahaaGreatLsLAnd
import Derived.Test.YtdonenoiehdahaaGreatProg
import Derived.Shelf.AbstractIn
import Derived.RangeFuncSeq
import Derived.RangeFuncKeeps
import Derived.Sort.MapsRangeIn
import Derived.WalkKit
import Derived.OwnWalkIn
import Derived.TacticsInMore
import Derived.RegionIn
import Derived.LoopNIn
import Derived.LoopIn
import Derived.Sort.EncStr
import Derived.RangeFuncNested
import Derived.RangeFuncBound
import Derived.RangeFuncCalls
import Derived.RangeFuncLeaves
import Derived.RangeFuncBox
import Derived.Maps.AppendAt
import Derived.Shelf.Abstract
import Derived.StillTailTactics
import Derived.Sort.Walk0
import Derived.Sort.Grow
import Derived.Shelf.SlSortCmp.SmallK
import Derived.Shelf.Small.Bits
import Derived.Shelf.SlGeneric
import Derived.Ground.SlsfProg
import Derived.Ground.NamesProg
import Derived.Shelf.SlSortCmp.WholeK
import Derived.Shelf.SlSortCmp.NoneTotal
set_option linter.all false
namespace Go.Proofs
open Go.RowKit Go.Sort Go.Keys
def tN (e:List UInt8×List UInt8×Bool):Value := .agg #[encStr e.1,encStr e.2.1,.bool e.2.2]
set_option maxRecDepth 100000 in
set_option maxHeartbeats 1000000 in
theorem Tryz.Y4 (F:Fence) (n:Nat) (hf:F.fn 163) (hro:F.round=none) (hn:1≤n) (l:Nat) (p:Addr) (b:Nat) (es:Array MapEntry) (clock:Nat) (kv:Fin es.size→List UInt8×List UInt8×Bool) (hkv:∀ i:Fin es.size,es[i].key=tN (kv i))
  (hst:(∀ m∈es.toList,m.born<clock)∧(es.toList.map (·.born)).Nodup) (J Jx:List (Fin es.size)→World→Prop)
  (hY:∀ pre x W,J pre W→pre.length<es.size→YieldAt F (n-1) Tryz.prog l #[tN (kv x)] W fun e W'=>(e = .returned (.bool true)∧J (pre++[x]) W'∧KeepsWalks W W')∨(e = .returned (.bool false)∧Jx (pre++[x]) W'))
  (W:World) (hJ:AbidesFrom W.heap.size J) (hm:W.cell? p=some (.map (some b))) (hb:W.heap[b]?=some (.map es clock)) (h0:J [] W) :
  CallsIn F n Tryz.prog 163 #[.func (.yield l) #[] #[],.pointer (some p)] W fun e W'=>(∃ v,e = .returned v)∧((∃ xs:List (Fin es.size),xs.Perm (List.finRange es.size)∧J xs W')∨∃ pre,True∧Jx pre W'):=by
 refine callsIn_of_wp Tryz.func163 rfl hf ?_ hro;simp only [Tryz.ntmps163,List.size_toArray,List.length_cons,List.length_nil,Nat.reduceAdd,Nat.reduceSub,Array.replicate_succ,Array.replicate_zero,List.push_toArray,List.append_toArray,List.nil_append,List.cons_append];have hbl:b<W.heap.size:=(Array.getElem?_eq_some_iff.1 hb).1
 gi_wp2_with (first
  | (gi_at_range;refine lQ _ rfl _ 150 rfl 153 4 Tryz.underlying150 b es clock rfl hb ?_)
  | gi_in)
 have hU0:Under es clock b W.heap.size [] (W.alloc (.mapIter (some b) clock #[] clock)):=⟨(Below.heap_alloc _ _ b hbl).trans hb,#[],World.alloc_heap_new W _,⟨List.nodup_nil,rfl⟩⟩;have hJ0:J [] (W.alloc (.mapIter (some b) clock #[] clock)):=hJ _ _ _ none h0 (World.grownBy_alloc W _ none) (fun r e=>by cases e);generalize W.alloc (.mapIter (some b) clock #[] clock)=W0 at hU0 hJ0 ⊢
 go_frame
 gi_loopw [3] (fun _ wr=>∃ xs:List (Fin es.size),Under es clock b W.heap.size xs wr∧J xs wr)
  (fun _ wr=>QD es.size W.heap.size wr)
 case atStart=>exact ⟨[],hU0,hJ0⟩
 case round=>
  obtain ⟨xs,hU,hJs⟩:=hrel
  gi_wp2_with (first
   | (gi_at_next;refine mY _ rfl _ rfl es clock b W.heap.size xs hst rfl hU (by omega) ?_ ?_)
   | gi_in)
  ·intro hall
   gi_wp2
   go_end0
   obtain ⟨seen,_,hs⟩:=hU.iter;exact ⟨⟨_,rfl⟩,.inl ⟨xs,MP hs.nd hall,hJs⟩⟩
  ·intro x w2 hx hU2 hg2 hs2 hen;have hJ2:J xs w2:=hJ xs wr w2 (some W.heap.size) hJs hg2 (fun r e=>by cases e;exact ⟨Nat.le_refl _,hU.walk⟩);have hlt:=hU.lt hx;have hkx:es[x.1].key=tN (kv x):=hkv x;rw [hkx] at hen ⊢;unfold tN at hen ⊢;clear hs2;have hJ4:=hJ xs w2 (w2.alloc (.cells #[.string ⟨(kv x).1.toArray⟩,.string ⟨(kv x).2.1.toArray⟩,.bool (kv x).2.2] 153)) none hJ2 (World.grownBy_alloc w2 _ none) (fun r e=>by cases e);have hU4:=hU2.of_walks (KeepsWalks.alloc w2 (.cells #[.string ⟨(kv x).1.toArray⟩,.string ⟨(kv x).2.1.toArray⟩,.bool (kv x).2.2] 153));obtain ⟨fn,tmps,assign,body,hy,hR⟩:=hY xs x _ hJ4 hlt;simp only [tN,encStr] at hy
   gi_wp2
   refine hR.mono ?_;rintro e W3 (⟨rfl,hJ3,hk3⟩ | ⟨rfl,hx3⟩)
   ·gi_wp2
    have hU3:=hU4.of_walks hk3
    go_roundw
    case rel=>exact ⟨xs++[x],hU3,hJ3⟩
    case measure=>rw [hU3.yt,hU.yt];simp;omega
   ·gi_wp2
    (try simp only [Exit.inBlock,Exit.then])
    refine bodyPost_ret (results_none rfl _ _ _) rfl ?_;exact ⟨⟨_,rfl⟩,.inr ⟨_,trivial,hx3⟩⟩
theorem Tryz.LX (F:Fence) (n:Nat) (hf:F.fn 163) (hro:F.round=none) (hn:1≤n) (p:Addr) (b:Nat) (es:Array MapEntry) (clock:Nat) (kv:Fin es.size→List UInt8×List UInt8×Bool) (hkv:∀ i:Fin es.size,es[i].key=tN (kv i))
  (hst:(∀ m∈es.toList,m.born<clock)∧(es.toList.map (·.born)).Nodup) (w:World) (hm:w.cell? p=some (.map (some b))) (hb:w.heap[b]?=some (.map es clock)) :
  SeqStopsK F n Tryz.prog 163 #[.pointer (some p)] (fun i:Fin es.size=>#[tN (kv i)]) KeepsWalks (fun xs=>xs.Perm (List.finRange es.size)) (fun _=>True) es.size w:=by
 intro l J Jx W hW hJ hJx hY h0;have hp:p.block<w.heap.size:=by
  unfold World.cell? at hm;cases ho:w.heap[p.block]? with
  | none=>simp [ho] at hm
  | some o=>exact (Array.getElem?_eq_some_iff.1 ho).1
 exact Tryz.Y4 F n hf hro hn l p b es clock kv hkv hst J Jx hY W hJ ((hW.cell hp).trans hm) ((hW.block b (Array.getElem?_eq_some_iff.1 hb).1).trans hb) h0
end Go.Proofs
namespace Go.Proofs
open Go.RowKit Go.Sort Go.Keys Go.Shelf
attribute [local go_sem] Oper.semAt_some
def cellsE (e:List UInt8×List UInt8×Bool):List Value:=[encStr e.1,encStr e.2.1,.bool e.2.2]
def Yj (W:World) (B:Nat) (e:List UInt8×List UInt8×Bool):Prop:=W.heap[B]?=some (.cells (cellsE e).toArray 153 (0,0))
theorem VZ (B:Nat) (e:List UInt8×List UInt8×Bool) (p:Prop):Own (fun (_:Unit) W=>Yj W B e∧p):=fun s X Y row hs hg hrow=>
 ⟨(hg.block B (Array.getElem?_eq_some_iff.1 hs.1).1 (fun e'=>by obtain ⟨o,ho,hc⟩:=hrow B e'.symm;rw [show X.heap[B]?=_ from hs.1] at ho;cases ho;cases hc)).trans hs.1,hs.2⟩
theorem Yj.cells {W:World} {B:Nat} {e:List UInt8×List UInt8×Bool} (h:Yj W B e):W.cell? ⟨B,0,none⟩=some (encStr e.1)∧W.cell? ⟨B,1,none⟩=some (encStr e.2.1)∧W.cell? ⟨B,2,none⟩=some (.bool e.2.2):=by
 have h:W.heap[B]?=some (.cells #[encStr e.1,encStr e.2.1,.bool e.2.2] 153 (0,0)):=h;simp [World.cell?,h]
theorem Fe (e:List UInt8×List UInt8×Bool):∀ u∈cellsE e,u.oneCell'=true:=by
 intro u hu;simp [cellsE] at hu;rcases hu with rfl | rfl | rfl<;>rfl
theorem cell_of_row {W:World} {b:Nat} {c:Array Value} {t:TypeId} {fz:Nat×Nat} (h:W.heap[b]?=some (.cells c t fz)) (j:Nat):W.cell? ((⟨b,0,none⟩:Addr).add j)=c[j]?:=by
 by_cases h0:j=0
 ·subst h0;simp [World.cell?,Addr.add,h]
 ·simp [World.cell?,Addr.add,h,h0]
theorem Fg (w:World) (e:List UInt8×List UInt8×Bool) (t:TypeId):∀ j u,(cellsE e)[j]?=some u→(w.alloc (.cells (cellsE e).toArray t)).cell? ((⟨w.heap.size,0,none⟩:Addr).add j)=some u:=by
 intro j u hj;rw [cell_of_row (World.alloc_heap_new w _)];simpa using hj
theorem Tryz.infoE:(Tryz.prog.info? 153).map (fun i=>(i.zero,i.size,i.bytes))=some (some (tN ([],[],false)),3,40):=by kernel_rfl
set_option maxRecDepth 100000 in
set_option maxHeartbeats 2000000 in
theorem Tryz.PS (F:Fence) (n:Nat) (hf:F.fn 182) (hfk:F.fn 163) (hro:F.round=none) (hn:2≤n) (p:Addr) (b:Nat) (es:Array MapEntry) (clock:Nat) (kv:Fin es.size→List UInt8×List UInt8×Bool) (hkv:∀ i:Fin es.size,es[i].key=tN (kv i))
  (hst:(∀ m∈es.toList,m.born<clock)∧(es.toList.map (·.born)).Nodup) (hN:es.size≤maxLen) (hNb:es.size*40≤140737488355328) (w:World) (hm:w.cell? p=some (.map (some b))) (hb:w.heap[b]?=some (.map es clock)) :
  CallsIn F n Tryz.prog 182 #[.slice none 0 0,.func (.func 163) #[] #[.pointer (some p)]] w fun e w'=>
   ∃ (v:Value) (xs:List (Fin es.size)),e = .returned v∧xs.Perm (List.finRange es.size)∧w'.ownsRow w.heap.size 153 3 v xs.length ((xs.map kv).flatMap cellsE)∧Below w.heap.size w w':=by
 have h1:1≤n:=by omega
 have hpl:p.block<w.heap.size:=by
  unfold World.cell? at hm;cases ho:w.heap[p.block]? with
  | none=>simp [ho] at hm
  | some o=>exact (Array.getElem?_eq_some_iff.1 ho).1
 have hbl:b<w.heap.size:=(Array.getElem?_eq_some_iff.1 hb).1;refine callsIn_of_wp_marks Tryz.func182 rfl hf ?_ hro;simp only [Tryz.ntmps182,List.size_toArray,List.length_cons,List.length_nil,Nat.reduceAdd,Nat.reduceSub,Array.replicate_succ,Array.replicate_zero,List.push_toArray,List.append_toArray,List.nil_append,List.cons_append]
 gi_wp2
 obtain ⟨W0,hW0⟩:∃ W0,w.alloc (.cells #[.slice none 0 0] 124)=W0:=⟨_,rfl⟩
 have hs0:W0.heap.size=w.heap.size+1:=by rw [← hW0];simp
 have hv0:Boxed W0 w.heap.size 124 (.slice none 0 0):=by rw [← hW0];exact Boxed.new w _ _
 have hb0:Below w.heap.size w W0:=by rw [← hW0];exact (Below.refl _ w).alloc (Nat.le_refl _) _
 have hne:(124:TypeId)≠153:=by decide
 obtain ⟨i0,hi,hz0,hz1,hz2⟩:=info_parts Tryz.infoE;rw [hW0];refine wpIn_rangeFunc_ownH hro h1 (gf:=163) (lb:=#[.pointer (some p)]) rfl hfk (enters_of Tryz.func163 (by kernel_rfl) rfl)
  (Tryz.LX F (n-1) hfk hro (by omega) p b es clock kv hkv hst W0 ((hb0.cell hpl).trans hm) ((hb0.block b hbl).trans hb)) walksK_t walksK_b (Below.refl _ _) (fun _=>rfl)
  (fun pre W=>(∃ v,Boxed W w.heap.size 124 v∧W.ownsRow w.heap.size 153 3 v pre.length ((pre.map kv).flatMap cellsE)∧True)∧Below w.heap.size w W) (fun _ _ _=>False)
  (OwnFrom.and (Own.from (holdsRow_own w.heap.size w.heap.size 124 153 3 (fun pre:List (Fin es.size)=>pre.length) (fun pre=>(pre.map kv).flatMap cellsE) (fun _ _=>True)) _) (ownFrom_below (Nat.le_refl _) (by omega)))
  (fun _ _ _ _ _ h _ _=>h.elim) ⟨⟨_,hv0,⟨rfl,.inl ⟨rfl,rfl⟩⟩,trivial⟩,hb0⟩
  (fun x a' W=>∃ Bx,Yj W Bx (kv x)∧(Bx≠w.heap.size∧a'={ tmps:=#[.slice none 0 0,.func (.func 163) #[] #[.pointer (some p)],
     .pointer (some { block:=w.heap.size,off:=0 }),undef,.slice none 0 0,.pointer (some ⟨Bx,0,none⟩),.func (.func 163) #[] #[.pointer (some p)],tN (kv x),undef,undef,undef,undef,undef],defers:=[] }))
  (fun x a' _ A B row hs hg hr=>by obtain ⟨Bx,h1,h2⟩:=hs;obtain ⟨h1,h2⟩:=(VZ Bx (kv x) _).from _ () A B row ⟨h1,h2⟩ hg hr;exact ⟨Bx,h1,h2⟩) ?assign ?body ?done ?stop
 case assign=>
  rintro l pre x W K ⟨⟨v,hv,hr,_⟩,hB⟩ hK;simp only [tN]
  gi_wp2
  exact hK _ _ ((KeepsOthers.alloc W _).from _) (KeepsWalks.alloc W _) ⟨⟨v,hv.alloc _,hr.alloc _,trivial⟩,hB.trans ((Below.refl _ W).alloc hB.size _)⟩ ⟨W.heap.size,World.alloc_heap_new W _,by have:=hv.lt;omega,rfl⟩
 case body=>
  rintro l pre x a' W hl ⟨r,hr⟩ ⟨⟨v,hv,hrow,_⟩,hB⟩ ⟨Bx,hx,hBx,rfl⟩ hlt;have hc:=hv.cell;obtain ⟨hx0,hx1,hx2⟩:=hx.cells
  gi_wp2_with (first
   | (gi_at_builtin;refine wpListIn_append_own _ rfl _ _ 124 rfl w.heap.size 153 i0 (tN ([],[],false)) 3 40 Tryz.underlying124 hi hz0 hz1 hz2 rfl (by decide) _ _ _ rfl (hrow.alloc _) ⟨W.heap.size,0,none⟩ 1 1 (cellsE (kv x)) rfl rfl (Fg _ _ _) (Fe _) (by omega) (by omega) (by have:=hB.size;simp;omega) ?_;intro v' w1 hown' hgrow _;obtain ⟨g',cap',rfl⟩:=ownsRow_succ hown';obtain ⟨hv1,hv2,hr2,hk2,hb2⟩:=hv.appended hne hrow hB.size (Nat.le_refl _) hown' hgrow;have hc1:=hv1.cell;have hf1:=hv1.frozen)
   | gi_in)
  exact ⟨hk2.from _,hk2.walks,⟨⟨_,hv2,by simpa using hr2,trivial⟩,hB.trans hb2⟩⟩
 case done=>
  rintro D xs W hD hS ⟨⟨v,hv,hrow,_⟩,hB⟩ hK;have hc:=hv.cell
  gi_wp2
  refine ⟨by simp,.inl ⟨_,_,rfl,run_takeDeferred hK,?_⟩⟩;refine ⟨_,results_tmp rfl _ _ _,v,xs,rfl,hS,ownsRow_putObj hrow _ hK rfl,hB.trans (belowK_b (w:=w) (Nat.le_refl _) W D _ _ (by omega) hK rfl rfl)⟩
 case stop=>
  rintro D c pre W hD _ h _;exact h.elim
end Go.Proofs
namespace Go.Proofs
open Go.RowKit Go.Sort Go.Keys Go.Shelf
abbrev mQ:=List UInt8×List UInt8×Bool
def aT (x y:List UInt8):Int:=if x<y then -1 else if y<x then 1 else 0
def mG (x y:mQ):Int:=if aT x.1 y.1≠0 then aT x.1 y.1 else if aT x.2.1 y.2.1≠0 then aT x.2.1 y.2.1 else if x.2.2=y.2.2 then 0 else if y.2.2 then -1 else 1
theorem pY (w:World) (o:Obj) (a:Addr) (h:a.block<w.heap.size):(w.alloc o).cell? a=w.cell? a:=World.cell?_of_block (Below.heap_alloc _ _ _ h)
theorem KR (P:Program) (t:TypeId) (x y:List UInt8) (w:World):Sem.run P (binOp .gtr t (encStr x) (encStr y)) w = .ok (.bool (Op.bytesLess y x)) w:=by
 simp [binOp,Op.stringOp,ByteArray.toList_eq];rw [bytesLess_eq,bytesLess_eq,Bool.eq_iff_iff];simp only [Bool.and_eq_true,Bool.not_eq_true',decide_eq_true_eq,decide_eq_false_iff_not,beq_eq_false_iff_ne,ne_eq];constructor
 ·rintro ⟨h1,h2⟩;rcases List.le_iff_lt_or_eq.1 (List.not_lt.1 h1) with h | h
  ·exact h
  ·exact absurd h.symm h2
 ·intro h;exact ⟨fun h'=>List.lt_irrefl _ (List.lt_trans h h'),fun e=>by rw [e] at h;exact List.lt_irrefl _ h⟩
theorem Tryz.Y6 (x:List UInt8) (w:World):Calls Tryz.prog 184 #[encStr x] w fun e w'=>e = .returned (.bool false)∧w'=w:=by
 go_enter Tryz.func184,Tryz.ntmps184
 go_wp2
 go_ret
 exact ⟨rfl,rfl⟩
theorem Tryz.Nl (x y:List UInt8) (w:World):Calls Tryz.prog 164 #[encStr x,encStr y] w fun e w'=>e = .returned (.int .i64 (aT x y))∧w'=w:=by
 have h1:=fun x=>Tryz.Y6 x w
 have hg:=fun x y w=>KR Tryz.prog 9 x y w
 go_enter Tryz.func164,Tryz.ntmps164
 go_wp2_with (go_at_call 184;refine (h1 _).mono ?_;rintro e w' ⟨rfl,rfl⟩)
 all_goals (try go_ret)
 all_goals refine ⟨?_,rfl⟩
 all_goals (unfold aT;simp only [bytesLess_eq,decide_eq_true_eq,decide_eq_false_iff_not] at *)
 all_goals first
  | (rw [if_pos (by assumption)];rfl)
  | (rw [if_neg (by assumption),if_pos (by assumption)];rfl)
  | (rw [if_neg (by assumption),if_neg (by assumption)];rfl)
theorem Tryz.orW (a c:Int) (b:Nat) (w:World) (h0:w.cell? ⟨b,0,none⟩=some (.int .i64 a)) (h1:w.cell? ⟨b,1,none⟩=some (.int .i64 c)) :
  Calls Tryz.prog 106 #[.slice (some ⟨b,0,none⟩) 2 2] w fun e w'=>e = .returned (.int .i64 (if a≠0 then a else c))∧w'=w:=by
 go_enter Tryz.func106,Tryz.ntmps106
 go_wp2
 refine wp_loop_rounds 3 ?_;by_cases ha:a=0
 ·subst ha;by_cases hc:c=0
  ·subst hc;repeat any_goals (rw [rounds_succ];go_wp2)
   all_goals (try go_ret)
   all_goals exact ⟨rfl,rfl⟩
  ·repeat any_goals (rw [rounds_succ];go_wp2)
   all_goals (try go_ret)
   all_goals exact ⟨by simp,rfl⟩
 ·repeat any_goals (rw [rounds_succ];go_wp2)
  all_goals (try go_ret)
  all_goals exact ⟨by simp,rfl⟩
set_option maxRecDepth 100000 in
set_option maxHeartbeats 2000000 in
theorem Tryz.TA (x y:mQ) (w:World):Calls Tryz.prog 154 #[tN x,tN y] w fun e w'=>e = .returned (.int .i64 (mG x y))∧∃ q os',w'=grow (w.drewN q) os':=by
 obtain ⟨a,b,c⟩:=x;obtain ⟨a',b',c'⟩:=y;have mixed:Tryz.prog.follows .mixedOrders=true:=by kernel_rfl
 obtain ⟨R,hR⟩:∃ R,(if aT a a'≠0 then aT a a' else aT b b')=R:=⟨_,rfl⟩
 have hor:=Tryz.orW (aT a a') (aT b b') (w.heap.size+2);rw [hR] at hor;have hcmp:mG (a,b,c) (a',b',c')=if R≠0 then R else if c=c' then 0 else if c' then -1 else 1:=by
  unfold mG;simp only;rw [← hR];by_cases h:aT a a'=0<;>by_cases h':aT b b'=0<;>simp [h,h']
 rw [hcmp];clear hcmp hR;change Calls Tryz.prog 154 #[.agg #[encStr a,encStr b,.bool c],.agg #[encStr a',encStr b',.bool c']] w _
 go_enter Tryz.func154,Tryz.ntmps154
 go_wp2
 obtain ⟨W,hW⟩:∃ W,(w.alloc (.cells #[encStr a,encStr b,.bool c] 153)).alloc (.cells #[encStr a',encStr b',.bool c'] 153)=W:=⟨_,rfl⟩
 rw [hW];have b0:W.heap[w.heap.size]?=some (.cells #[encStr a,encStr b,.bool c] 153 (0,0)):=by
  rw [← hW];exact (Below.heap_alloc _ _ _ (by simp)).trans (World.alloc_heap_new w _)
 have b1:W.heap[w.heap.size+1]?=some (.cells #[encStr a',encStr b',.bool c'] 153 (0,0)):=by
  rw [← hW];have:=World.alloc_heap_new (w.alloc (.cells #[encStr a,encStr b,.bool c] 153)) (.cells #[encStr a',encStr b',.bool c'] 153)
  simpa using this
 have h0:∀ n,({ W with drawn:=n }:World).cell? ⟨w.heap.size,0,none⟩=some (encStr a):=by intro n;simp [World.cell?,b0]
 have h1:∀ n,({ W with drawn:=n }:World).cell? ⟨w.heap.size,1,none⟩=some (encStr b):=by intro n;simp [World.cell?,b0]
 have h2:∀ n,({ W with drawn:=n }:World).cell? ⟨w.heap.size,2,none⟩=some (.bool c):=by intro n;simp [World.cell?,b0]
 have k0:∀ n,({ W with drawn:=n }:World).cell? ⟨w.heap.size+1,0,none⟩=some (encStr a'):=by intro n;simp [World.cell?,b1]
 have k1:∀ n,({ W with drawn:=n }:World).cell? ⟨w.heap.size+1,1,none⟩=some (encStr b'):=by intro n;simp [World.cell?,b1]
 have k2:∀ n,({ W with drawn:=n }:World).cell? ⟨w.heap.size+1,2,none⟩=some (.bool c'):=by intro n;simp [World.cell?,b1]
 go_still_tail 10,mixed
 still_call (Tryz.Nl _ _ _)
 repeat still_step
 still_call (Tryz.Nl _ _ _)
 repeat still_step
 refine wpStill_nil ?_;have h2':=h2 (W.drawn+1);have k2':=k2 (W.drawn+1);clear h0 h1 h2 k0 k1 k2;have hsz:({ W with drawn:=W.drawn+1 }:World).heap.size=w.heap.size+2:=by rw [← hW];simp
 have hgr:∃ os',({ W with drawn:=W.drawn+1 }:World)=grow (w.drewN 1) os':=by
  refine ⟨#[.cells #[encStr a,encStr b,.bool c] 153 (0,0),.cells #[encStr a',encStr b',.bool c'] 153 (0,0)],?_⟩;rw [← hW,alloc_eq_grow,alloc_eq_grow,grow_grow];rfl
 generalize ({ W with drawn:=W.drawn+1 }:World)=X at h2' k2' hsz hgr ⊢;have hh2:∀ o,(X.alloc o).cell? ⟨w.heap.size,2,none⟩=some (.bool c):=fun o=>(pY X o _ (by show w.heap.size<_;omega)).trans h2'
 have hk2:∀ o,(X.alloc o).cell? ⟨w.heap.size+1,2,none⟩=some (.bool c'):=fun o=>(pY X o _ (by show w.heap.size+1<_;omega)).trans k2'
 clear h2' k2' b0 b1 hW;have hnew:=World.alloc_heap_new X (.cells #[.int .i64 (aT a a'),.int .i64 (aT b b')] 3);rw [hsz] at hnew;have hgY:∃ os',X.alloc (.cells #[.int .i64 (aT a a'),.int .i64 (aT b b')] 3)=grow (w.drewN 1) os':=by
  obtain ⟨os,hos⟩:=hgr;exact ⟨os++#[.cells #[.int .i64 (aT a a'),.int .i64 (aT b b')] 3],by rw [hos,alloc_eq_grow,grow_grow]⟩
 have hh2':=hh2 (.cells #[.int .i64 (aT a a'),.int .i64 (aT b b')] 3);have hk2':=hk2 (.cells #[.int .i64 (aT a a'),.int .i64 (aT b b')] 3);have hor':=hor (X.alloc (.cells #[.int .i64 (aT a a'),.int .i64 (aT b b')] 3)) (by simp [World.cell?,hnew]) (by simp [World.cell?,hnew]);clear hh2 hk2 hnew hgr hor
 go_wp2_with (go_at_call 106;refine hor'.mono ?_;rintro e w' ⟨rfl,rfl⟩;clear hor';generalize X.alloc (.cells #[.int .i64 (aT a a'),.int .i64 (aT b b')] 3)=Y at hgY hh2' hk2' ⊢)
 all_goals (try go_ret)
 all_goals (obtain ⟨os,hos⟩:=hgY;refine ⟨?_,1,os,hos⟩;show Ending.returned (.int .i64 _)=_)
 all_goals first | rfl | (simp;done) | (simp [*];done) | (cases c<;>cases c'<;>simp_all;done)
theorem I9 (a b:List UInt8):a<b∨a=b∨b<a:=by
 by_cases h:b<a
 ·exact .inr (.inr h)
 ·rcases List.le_iff_lt_or_eq.1 (List.not_lt.1 h) with h | h
  ·exact .inl h
  ·exact .inr (.inl h)
theorem Rf (a b:List UInt8):aT a b<0↔a<b:=by
 unfold aT;by_cases h:a<b
 ·simp [h]
 ·rw [if_neg h];by_cases h':b<a<;>simp [h,h']
theorem BU (a b:List UInt8):aT a b=0↔a=b:=by
 unfold aT;by_cases h:a<b
 ·rw [if_pos h];exact ⟨fun e=>(by cases e),fun e=>by rw [e] at h;exact absurd h (List.lt_irrefl _)⟩
 ·rw [if_neg h];by_cases h':b<a
  ·rw [if_pos h'];exact ⟨fun e=>(by cases e),fun e=>by rw [e] at h';exact absurd h' (List.lt_irrefl _)⟩
  ·rw [if_neg h'];exact ⟨fun _=>by rcases I9 a b with h1 | h1 | h1;exact absurd h1 h;exact h1;exact absurd h1 h',fun _=>rfl⟩
def vJ (x y:mQ):Prop:=x.1<y.1∨x.1=y.1∧(x.2.1<y.2.1∨x.2.1=y.2.1∧x.2.2=false∧y.2.2=true)
theorem VW (x y:mQ):mG x y<0↔vJ x y:=by
 obtain ⟨a,b,c⟩:=x;obtain ⟨a',b',c'⟩:=y;unfold mG vJ;simp only;by_cases h:a=a'
 ·have h0:=(BU a a').2 h;rw [if_neg (by simp [h0])];by_cases h2:b=b'
  ·have h3:=(BU b b').2 h2;rw [if_neg (by simp [h3])];cases c<;>cases c'<;>simp [h,h2,List.lt_irrefl]
  ·rw [if_pos (by rw [ne_eq,BU];exact h2),Rf];simp [h,h2,List.lt_irrefl]
 ·rw [if_pos (by rw [ne_eq,BU];exact h),Rf];simp [h]
theorem LQ (x:mQ):¬ vJ x x:=by
 unfold vJ;rintro (h | ⟨_,h | ⟨_,h,h'⟩⟩)
 ·exact List.lt_irrefl _ h
 ·exact List.lt_irrefl _ h
 ·rw [h] at h';cases h'
theorem DU (x y:mQ):vJ x y∨x=y∨vJ y x:=by
 obtain ⟨a,b,c⟩:=x;obtain ⟨a',b',c'⟩:=y;unfold vJ;simp only;rcases I9 a a' with h | h | h
 ·exact .inl (.inl h)
 ·subst h;rcases I9 b b' with h | h | h
  ·exact .inl (.inr ⟨rfl,.inl h⟩)
  ·subst h;cases c<;>cases c'
   ·exact .inr (.inl rfl)
   ·exact .inl (.inr ⟨rfl,.inr ⟨rfl,rfl,rfl⟩⟩)
   ·exact .inr (.inr (.inr ⟨rfl,.inr ⟨rfl,rfl,rfl⟩⟩))
   ·exact .inr (.inl rfl)
  ·exact .inr (.inr (.inr ⟨rfl,.inl h⟩))
 ·exact .inr (.inr (.inl h))
theorem wP {x y z:mQ} (h1:vJ x y) (h2:vJ y z):vJ x z:=by
 obtain ⟨a,b,c⟩:=x;obtain ⟨a',b',c'⟩:=y;obtain ⟨a2,b2,c2⟩:=z;unfold vJ at *;simp only at *;rcases h1 with h1 | ⟨rfl,h1⟩
 ·rcases h2 with h2 | ⟨rfl,_⟩
  ·exact .inl (List.lt_trans h1 h2)
  ·exact .inl h1
 ·rcases h2 with h2 | ⟨rfl,h2⟩
  ·exact .inl h2
  ·refine .inr ⟨rfl,?_⟩;rcases h1 with h1 | ⟨rfl,h1,h1'⟩
   ·rcases h2 with h2 | ⟨rfl,_⟩
    ·exact .inl (List.lt_trans h1 h2)
    ·exact .inl h1
   ·rcases h2 with h2 | ⟨rfl,h2,h2'⟩
    ·exact .inl h2
    ·rw [h1'] at h2;cases h2
theorem kQ (x y:mQ):ltOf mG x y=true↔vJ x y:=by unfold ltOf;rw [decide_eq_true_eq,VW]
theorem Yl:SWO (ltOf mG) where
 irrefl x:=by
  cases h:ltOf mG x x with
  | false=>rfl
  | true=>exact absurd ((kQ x x).1 h) (LQ x)
 trans x y z h1 h2:=(kQ x z).2 (wP ((kQ x y).1 h1) ((kQ y z).1 h2))
 ntrans x y z h1 h2:=by
  cases h:ltOf mG x z with
  | false=>rfl
  | true=>
    have h':=(kQ x z).1 h;have n1:¬ vJ x y:=fun e=>by rw [(kQ x y).2 e] at h1;cases h1
    have n2:¬ vJ y z:=fun e=>by rw [(kQ y z).2 e] at h2;cases h2
    rcases DU x y with e | e | e
    ·exact absurd e n1
    ·rw [e] at h';exact absurd h' n2
    ·exact absurd (wP e h') n2
def dD (l:List mQ):List mQ:=l.mergeSort fun x y=>!ltOf mG y x
theorem fP (l:List mQ):(dD l).Perm l:=List.mergeSort_perm _ _
theorem CO {l l':List mQ} (h:l.Perm l'):dD l=dD l':=by
 have srt:∀ l:List mQ,(dD l).Pairwise fun x y=>¬ vJ y x:=fun l=>by
  have:=List.pairwise_mergeSort (le:=fun x y:mQ=>!ltOf mG y x) (fun a b c h1 h2=>by
   simp only [Bool.not_eq_true'] at *;exact Yl.ntrans _ _ _ h2 h1) (fun a b=>by
   cases h1:ltOf mG b a with
   | false=>rfl
   | true=>
     cases h2:ltOf mG a b with
     | false=>rfl
     | true=>exact absurd (wP ((kQ b a).1 h1) ((kQ a b).1 h2)) (LQ b)) l
  exact this.imp fun {x y} h e=>by rw [(kQ y x).2 e] at h;cases h
 refine List.Perm.eq_of_pairwise (le:=fun x y=>¬ vJ y x) (fun a b _ _ h1 h2=>?_) (srt l) (srt l') (((fP l).trans h).trans (fP l').symm);rcases DU a b with e | e | e
 ·exact absurd e h2
 ·exact e
 ·exact absurd e h1
def Tryz.sortE_ren:Go.Shelf.Ren:=⟨fun | 6=>162 | 15=>157 | 14=>183 | 28=>173 | 29=>174 | 20=>192 | 21=>193 | 22=>194 | 23=>195 | 24=>196 | 25=>197 | 26=>198 | 27=>199 | 46=>210 | 47=>186 | 48=>187 | 49=>211 | 50=>212 | 57=>216 | n=>n,fun | 22=>124 | 24=>153 | 25=>192 | 3=>3 | 39=>163 | 0=>0 | 53=>213 | 55=>47 | 4=>4 | 46=>207 | 45=>206 | 50=>103 | 5=>5 | 9=>9 | 66=>218 | 70=>222 | 76=>231 | 77=>232 | n=>n,fun | n=>n⟩
theorem Tryz.sortE:Go.Proofs.SlLaysF0.n6 Tryz.prog Tryz.sortE_ren:={
 mixed:=by kernel_rfl
 f6:=⟨Tryz.f162.name,by decide,Tryz.func162.trans (congrArg some (by kernel_rfl))⟩
 f14:=⟨Tryz.f183.name,by decide,Tryz.func183.trans (congrArg some (by kernel_rfl))⟩
 f15:=Tryz.func157.trans (congrArg some (by kernel_rfl))
 f20:=⟨Tryz.f192.name,by decide,Tryz.func192.trans (congrArg some (by kernel_rfl))⟩
 f21:=⟨Tryz.f193.name,by decide,Tryz.func193.trans (congrArg some (by kernel_rfl))⟩
 f22:=⟨Tryz.f194.name,by decide,Tryz.func194.trans (congrArg some (by kernel_rfl))⟩
 f23:=⟨Tryz.f195.name,by decide,Tryz.func195.trans (congrArg some (by kernel_rfl))⟩
 f24:=⟨Tryz.f196.name,by decide,Tryz.func196.trans (congrArg some (by kernel_rfl))⟩
 f25:=⟨Tryz.f197.name,by decide,Tryz.func197.trans (congrArg some (by kernel_rfl))⟩
 f26:=⟨Tryz.f198.name,by decide,Tryz.func198.trans (congrArg some (by kernel_rfl))⟩
 f27:=⟨Tryz.f199.name,by decide,Tryz.func199.trans (congrArg some (by kernel_rfl))⟩
 f28:=Tryz.func173.trans (congrArg some (by kernel_rfl))
 f29:=Tryz.func174.trans (congrArg some (by kernel_rfl))
 f46:=⟨Tryz.f210.name,by decide,Tryz.func210.trans (congrArg some (by kernel_rfl))⟩
 f47:=Tryz.func186.trans (congrArg some (by kernel_rfl))
 f48:=Tryz.func187.trans (congrArg some (by kernel_rfl))
 f49:=⟨Tryz.f211.name,by decide,Tryz.func211.trans (congrArg some (by kernel_rfl))⟩
 f50:=⟨Tryz.f212.name,by decide,Tryz.func212.trans (congrArg some (by kernel_rfl))⟩
 f57:=⟨Tryz.f216.name,by decide,Tryz.func216.trans (congrArg some (by kernel_rfl))⟩
 t0:=Tryz.underlying0
 a0:=Tryz.isAgg0
 z0:=Tryz.sizeOf0
 v0:=Tryz.zeroValue0
 t3:=Tryz.underlying3
 a3:=Tryz.isAgg3
 z3:=Tryz.sizeOf3
 v3:=Tryz.zeroValue3
 t4:=Tryz.underlying4
 a4:=Tryz.isAgg4
 z4:=Tryz.sizeOf4
 v4:=Tryz.zeroValue4
 t5:=Tryz.underlying5
 a5:=Tryz.isAgg5
 z5:=Tryz.sizeOf5
 v5:=Tryz.zeroValue5
 t9:=Tryz.underlying9
 a9:=Tryz.isAgg9
 z9:=Tryz.sizeOf9
 v9:=Tryz.zeroValue9
 t22:=Tryz.underlying124
 a22:=Tryz.isAgg124
 z22:=Tryz.sizeOf124
 v22:=Tryz.zeroValue124
 t25:=Tryz.underlying192
 a25:=Tryz.isAgg192
 z25:=Tryz.sizeOf192
 v25:=Tryz.zeroValue192
 t39:=Tryz.underlying163
 a39:=Tryz.isAgg163
 z39:=Tryz.sizeOf163
 v39:=Tryz.zeroValue163
 t45:=Tryz.underlying206
 a45:=Tryz.isAgg206
 z45:=Tryz.sizeOf206
 v45:=Tryz.zeroValue206
 t46:=Tryz.underlying207
 a46:=Tryz.isAgg207
 z46:=Tryz.sizeOf207
 v46:=Tryz.zeroValue207
 t50:=Tryz.underlying103
 a50:=Tryz.isAgg103
 z50:=Tryz.sizeOf103
 v50:=Tryz.zeroValue103
 t53:=Tryz.underlying213
 a53:=Tryz.isAgg213
 z53:=Tryz.sizeOf213
 v53:=Tryz.zeroValue213
 t55:=Tryz.underlying47
 a55:=Tryz.isAgg47
 z55:=Tryz.sizeOf47
 v55:=Tryz.zeroValue47
 t66:=Tryz.underlying218
 a66:=Tryz.isAgg218
 z66:=Tryz.sizeOf218
 v66:=Tryz.zeroValue218
 t70:=Tryz.underlying222
 a70:=Tryz.isAgg222
 z70:=Tryz.sizeOf222
 v70:=Tryz.zeroValue222
 t76:=Tryz.underlying231
 a76:=Tryz.isAgg231
 z76:=Tryz.sizeOf231
 v76:=Tryz.zeroValue231
 t77:=Tryz.underlying232
 a77:=Tryz.isAgg232
 z77:=Tryz.sizeOf232
 v77:=Tryz.zeroValue232 }
abbrev FH:=List UInt8×List UInt8×Bool
theorem flat3 (l:List FH):∀ (i c:Nat) (e:FH),l[i]?=some e→c<3→(l.flatMap cellsE)[i*3+c]?=(cellsE e)[c]?:=by
 induction l with
 | nil=>intro i c e h;simp at h
 | cons x l ih=>
   intro i c e h hc;rw [List.flatMap_cons];cases i with
   | zero=>
     simp at h;subst h;rw [List.getElem?_append_left (by simp [cellsE];omega)];simp
   | succ i=>
     rw [List.getElem?_append_right (by simp [cellsE];omega)];have:=ih i c e (by simpa using h) hc
     simpa [cellsE,show (i+1)*3+c-3=i*3+c by omega] using this
theorem JJ (l:List FH):(l.flatMap cellsE).length=l.length*3:=by
 induction l with
 | nil=>rfl
 | cons x l ih=>rw [List.flatMap_cons,List.length_append,ih];simp [cellsE];omega
theorem MO {α:Type} [Inhabited α] (f:α→FH) (d:Array α):(flatK (fun i=>cellsE (f i)) 3 d).toList=(d.toList.map f).flatMap cellsE:=by
 apply List.ext_getElem?;intro t;by_cases ht:t<d.size*3
 ·have h1:t / 3<d.size:=by omega
  have h2:(d.toList.map f)[t / 3]?=some (f d[t / 3]!):=by simp [h1]
  have h3:=flat3 (d.toList.map f) (t / 3) (t % 3) _ h2 (by omega);rw [show t / 3*3+t % 3=t by omega] at h3;rw [h3];have h4:=get_flatK (fun i=>cellsE (f i)) 3 d t ht;have h5:(flatK (fun i=>cellsE (f i)) 3 d).toList[t]?=some ((cellsE (f d[t / 3]!))[t % 3]!):=by
   rw [← h4];simp [ht]
  rw [h5];have:t % 3<(cellsE (f d[t / 3]!)).length:=by simp [cellsE];omega
  simp [this]
 ·rw [List.getElem?_eq_none (by simp;omega),List.getElem?_eq_none (by rw [JJ];simp;omega)]
theorem OX {w:World} {g:Nat} {cur F:Array Value} {e:TypeId} (hb:w.heap[g]?=some (.cells cur e (0,0))) (ht:cur.toList.take F.size=F.toList):Holds id w g 0 F:=by
 intro j hj;refine ⟨?_,by simp [World.frozen?,hb]⟩;have h1:(cur.toList.take F.size)[j]?=F.toList[j]?:=by rw [ht]
 rw [List.getElem?_take_of_lt hj] at h1;simp only [World.cell?,hb,Nat.zero_add];simp only [Option.isSome_none,Bool.false_eq_true,if_false];rw [← Array.getElem?_toList,h1];simp [hj]
theorem SE {w:World} {g n:Nat} {os:Array Obj} {cur:Array Value} {e:TypeId} {fr:Nat×Nat} (d:Array Value) (hb:w.heap[g]?=some (.cells cur e fr)) :
  (grow (putRow id (Sort.ahead w n) g 0 d) os).heap[g]?=some (.cells (putCells id 0 d cur) e fr):=by
 have hg:g<w.heap.size:=(Array.getElem?_eq_some_iff.1 hb).1;rw [heap_grow_old _ _ (by simpa using hg)];simp [putRow,mapBlock,Sort.ahead,Array.getElem?_modify,hb,onCells]
theorem JG {w:World} {g n:Nat} {os:Array Obj} (d:Array Value):w.grownBy (grow (putRow id (Sort.ahead w n) g 0 d) os) (some g):=by
 refine ⟨rfl,rfl,rfl,by simp,fun k hk hne=>?_⟩;rw [heap_grow_old _ _ (by simpa using hk)];have:g≠k:=fun e=>hne (by rw [e])
 simp [putRow,mapBlock,Sort.ahead,Array.getElem?_modify,this]
theorem Rz (cur F:Array Value) (h:F.size≤cur.size):(putCells id 0 F cur).toList.take F.size=F.toList:=by
 apply List.ext_getElem?;intro j;by_cases hj:j<F.size
 ·rw [List.getElem?_take_of_lt hj,Array.getElem?_toList];simp [putCells,hj,show j<cur.size by omega]
 ·rw [List.getElem?_take_eq_none (by omega),List.getElem?_eq_none (by simp;omega)]
theorem Jk {w:World} {base g cap n k:Nat} {e:TypeId} {os:Array Obj} {cur F:Array Value} (hl:F.size=k*3) (hbase:base≤g) (hb:w.heap[g]?=some (.cells cur e (0,0)))
  (h1:k≤cap) (h2:cap≤maxLen) (h3:cur.size=cap*3) :
  (grow (putRow id (Sort.ahead w n) g 0 F) os).ownsRow base e 3 (.slice (some ⟨g,0,none⟩) k cap) k F.toList:=
 ⟨by simp [hl],.inr ⟨g,cap,_,rfl,hbase,SE _ hb,h1,h2,by simp [putCells,h3],by rw [← hl];exact Rz cur F (by omega)⟩⟩
set_option maxRecDepth 100000 in
set_option maxHeartbeats 1000000 in
theorem Tryz.VT (F:Fence) (n:Nat) (hc:F.fn 161) (hf:F.fn 182) (hfk:F.fn 163) (hro:F.round=none) (hn:3≤n) (p:Addr) (b:Nat) (es:Array MapEntry) (clock:Nat) (kv:Fin es.size→FH) (hkv:∀ i:Fin es.size,es[i].key=tN (kv i))
  (hst:(∀ m∈es.toList,m.born<clock)∧(es.toList.map (·.born)).Nodup) (hN:es.size≤maxLen) (hNb:es.size*40≤140737488355328) (w:World) (hm:w.cell? p=some (.map (some b))) (hb:w.heap[b]?=some (.map es clock)) :
  CallsIn F n Tryz.prog 161 #[.func (.func 163) #[] #[.pointer (some p)]] w fun e w'=>
   ∃ (v:Value) (xs:List (Fin es.size)),e = .returned v∧xs.Perm (List.finRange es.size)∧w'.ownsRow w.heap.size 153 3 v xs.length ((xs.map kv).flatMap cellsE)∧Below w.heap.size w w':=by
 have h1:1≤n:=by omega
 have cA:=Tryz.PS F (n-1) hf hfk hro (by omega) p b es clock kv hkv hst hN hNb w hm hb;refine callsIn_of_wp Tryz.func161 rfl hc ?_ hro;simp only [Tryz.ntmps161,List.size_toArray,List.length_cons,List.length_nil,Nat.reduceAdd,Nat.reduceSub,Array.replicate_succ,Array.replicate_zero,List.push_toArray,List.append_toArray,List.nil_append,List.cons_append]
 gi_wp2_with (gi_at_call 182;refine cA.mono ?_;rintro e w' ⟨v,xs,rfl,hS,hrow,hB⟩)
 go_ret
 exact ⟨v,xs,rfl,hS,hrow,hB⟩
set_option maxRecDepth 100000 in
set_option maxHeartbeats 1000000 in
theorem Tryz.KI (p:Addr) (b:Nat) (es:Array MapEntry) (clock:Nat) (kv:Fin es.size→mQ) (hkv:∀ i:Fin es.size,es[i].key=tN (kv i))
  (hst:(∀ m∈es.toList,m.born<clock)∧(es.toList.map (·.born)).Nodup) (w:World) (hm:w.cell? p=some (.map (some b))) (hb:w.heap[b]?=some (.map es clock)) (hN:es.size≤1000000000) :
  Calls Tryz.prog 152 #[.func (.func 163) #[] #[.pointer (some p)],.func (.func 154) #[] #[]] w fun e w'=>
   ∃ v,e = .returned v∧w'.ownsRow w.heap.size 153 3 v es.size ((dD ((List.finRange es.size).map kv)).flatMap cellsE)∧Below w.heap.size w w':=by
 have cC:=callsIn_wide.1 (Tryz.VT Fence.wide 3 trivial trivial trivial rfl (by omega) p b es clock kv hkv hst (Nat.le_trans hN (by decide)) (by omega) w hm hb);have e163:=enters_of Tryz.func162 (by kernel_rfl) rfl
 go_enter Tryz.func152,Tryz.ntmps152
 go_wp2_with (go_at_call 161;refine cC.mono ?_;rintro e W ⟨v,xs,rfl,hS,hrow,hB⟩)
 have hxl:xs.length=es.size:=by rw [hS.length_eq];simp
 have hso:dD (xs.map kv)=dD ((List.finRange es.size).map kv):=CO (hS.map kv);clear hS hst hkv cC;obtain ⟨D0,hD⟩:∃ D0,xs.map kv=D0:=⟨_,rfl⟩
 rw [hD] at hrow hso;have hDl:D0.length=xs.length:=by rw [← hD];simp
 rcases hrow.2 with ⟨rfl,h⟩ | ⟨gb,cap,cur,rfl,hbase,hgb,r1,r2,r3,r4⟩
 ·have cS:=AnyF.slices_SortFunc_none Tryz.sortE none 0 (.func (.func 154) #[] #[]) W;change Calls Tryz.prog 162 _ _ _ at cS
  go_wp2_with (go_at_call 162;refine cS.mono ?_;rintro e W' ⟨rfl,rfl⟩)
  go_ret
  obtain rfl:D0=[]:=List.length_eq_zero_iff.1 (by omega);rw [← hso,← hxl];exact ⟨_,rfl,⟨by rw [h];simp [dD],.inl ⟨rfl,h⟩⟩,hB⟩
 ·have hgl:gb<W.heap.size:=(Array.getElem?_eq_some_iff.1 hgb).1;have hsz:D0.toArray.size=xs.length:=by simp [hDl]
  have hH:HoldsK cellsE 3 W gb 0 D0.toArray:=OX hgb (by
   have h1:=MO (fun e:FH=>e) D0.toArray
   rw [show (flatK cellsE 3 D0.toArray).toList=(D0.toArray.toList.map fun e=>e).flatMap cellsE from h1,size_flatK,hsz,r4];simp)
  have cS:=AnyQ.slices_SortFunc_total Tryz.sortE 3 Tryz.isAgg153 Tryz.sizeOf153 cellsE (fun _=>rfl) Fe mG Yl 154 #[] gb 0 cap D0.toArray W (enters_of Tryz.func154 (by kernel_rfl) rfl)
   (fun m os dk hd x y=>Tryz.TA x y _) hH hgl (by rw [hsz,hxl];omega) (fun x y h1 h2=>by
    rcases DU x y with e | e | e
    ·rw [(kQ x y).2 e] at h1;cases h1
    ·exact e
    ·rw [(kQ y x).2 e] at h2;cases h2)
  rw [hsz] at cS;change Calls Tryz.prog 162 _ _ _ at cS
  go_wp2_with (go_at_call 162;refine cS.mono ?_;rintro e W' ⟨rfl,m,os,rfl⟩)
  go_ret
  rw [← hso,← hxl];have hfl:(flatK cellsE 3 (dD D0).toArray).toList=(dD D0).flatMap cellsE:=by
   have h1:=MO (fun e:FH=>e) (dD D0).toArray;rw [show (flatK cellsE 3 (dD D0).toArray).toList=((dD D0).toArray.toList.map fun e=>e).flatMap cellsE from h1];simp
  refine ⟨_,rfl,?_,hB.grown (JG _) hB.size (fun k e=>by cases e;exact hbase)⟩;rw [← hfl];exact Jk (by rw [size_flatK,List.size_toArray,show (D0.mergeSort fun x y=>!ltOf mG y x).length=D0.length from (fP D0).length_eq,hDl]) hbase hgb (by omega) r2 r3
end Go.Proofs
namespace Go.Proofs.YtdonenoiehdahaaGreat
open Go Go.Abs Go.Own Go.RowKit Go.Keys Go.Sort
attribute [local irreducible] WP
theorem Tryz.Y3 (es:List (D×D)):aH Tryz.prog 153 [0] [.map 0] [((0,0),.map es)] [1] [.func (.func 163) [] [.ptr 1 0]] [((0,0),.map es),((1,0),.cell (.map 0))]:=by
 refine aH.of_wp hT (nt:=_) (c:=_) Tryz.func153 rfl rfl rfl rfl (by kernel_rfl) rfl rfl ?_;intro w0 ok0 wr β0;refine W1 ?_;refine W2 hT hM [1] ?_;conv=>whnf
 repeat (refine gw rfl ?_;conv=>whnf)
 refine ⟨[(0,some 0),(1,some 1)],[],?_,rfl⟩;((conv=>whnf);repeat (first | exact ⟨⟩ | (refine ⟨by first | rfl | (simp;done) | (simp;omega),?_⟩;conv=>whnf)))
theorem Zn (l:List Eg):∀ (i c:Nat) (e:Eg),l[i]?=some e→c<3→(l.flatMap cellsE)[i*3+c]?=(cellsE e)[c]?:=Go.Proofs.flat3 l
theorem Tryz.Ua (es:List (D×D)) (ks:List Eg) (hk:es.map (·.1)=ks.map egD) (hl:ks.length≤1000000) :
  aH Tryz.prog 152 [0,1] [.func (.func 163) [] [.ptr 1 0],.func (.func 154) [] []] [((0,0),.map es),((1,0),.cell (.map 0))] [] [.d (.list ((dD ks).map egD))] []:=by
 refine ⟨⟨_,Tryz.func152,by kernel_rfl,rfl⟩,fun k r h=>(by cases h),fun β ok w vs hgl hokb hsz has hpre hsep hinj=>?_⟩;obtain ⟨v0,v1,rfl⟩:∃ v0 v1,vs=#[v0,v1]:=by
  have h3:vs.size=2:=hsz;exact ⟨vs[0],vs[1],by apply Array.ext (by simpa using h3);intro i h1 h2;match i,h2 with | 0,_=>rfl | 1,_=>rfl⟩
 have h0:=has 0 v0 _ rfl rfl;have h1:=has 1 v1 _ rfl rfl;obtain rfl:v1 = .func (.func 154) #[] #[]:=by
  cases h1 with
  | func fn fs cs f cc q1 q2 q3 q4=>rw [Array.eq_empty_of_size_eq_zero q1,Array.eq_empty_of_size_eq_zero q2]
 obtain ⟨_,_,r,ents,clock,e1,e2,e3,e4,e5⟩:=hpre (0,0) (.map es) (by simp);obtain ⟨_,b,c,T,u,g1,g2,g3,g4,g5⟩:=hpre (1,0) (.cell (.map 0)) (by simp);cases h0 with
 | func fn fs cs f cc q1 q2 q3 q4=>
   obtain rfl:fs=#[]:=Array.eq_empty_of_size_eq_zero q1;obtain ⟨p,rfl⟩:∃ p,cs=#[p]:=by
    have h3:cs.size=1:=q2;exact ⟨cs[0],by apply Array.ext (by simpa using h3);intro i h1 h2;match i,h2 with | 0,_=>rfl⟩
   have hp:=q4 0 p _ rfl rfl;cases hp with
   | ptr _ _ b' p1 p2=>
     have g1:β 1 = .pointer (some ⟨b,0,none⟩):=g1;rw [p2] at g1;obtain rfl:b'=b:=by simpa using g1
     cases g5 with
     | map _ r' s1 s2=>
       have e1:β 0 = .map (some r):=e1;rw [s2] at e1;obtain rfl:r'=r:=by simpa using e1
       have hm:w.cell? ⟨b',0,none⟩=some (.map (some r')):=(by rw [Go.cell_of_row w b' 0 c T (0,0) g2];exact g3);have hn:ents.size=ks.length:=(by rw [e3];have:=congrArg List.length hk;simpa using this);have hkv:∀ i:Fin ents.size,ents[i].key=tN (ks[i.1]'(by rw [← hn];exact i.2))∧(ks[i.1]'(by rw [← hn];exact i.2)).1.length≤maxLen∧(ks[i.1]'(by rw [← hn];exact i.2)).2.1.length≤maxLen:=fun i=>by
        have hik:i.1<ks.length:=(by rw [← hn];exact i.2);have hie:i.1<es.length:=(by rw [← e3];exact i.2);have h1:=(e4 i.1 ents[i] es[i.1] (by simp) (by simp [hie])).1;have h2:es[i.1].1=egD ks[i.1]:=by
         have:(es.map (·.1))[i.1]?=(ks.map egD)[i.1]?:=by rw [hk]
         simpa [List.getElem?_map,List.getElem?_eq_getElem hik,List.getElem?_eq_getElem hie] using this
        rw [h2] at h1;revert h1;generalize ents[i].key=kk;intro h1;cases h1 with
        | agg us _ t1 t2 t3=>
          obtain ⟨x,y,z,rfl⟩:∃ x y z,us=#[x,y,z]:=by
           have h3:us.size=3:=t1;exact ⟨us[0],us[1],us[2],by apply Array.ext (by simpa using h3);intro i h1 h2;match i,h2 with | 0,_=>rfl | 1,_=>rfl | 2,_=>rfl⟩
          have a0:=t2 0 x _ rfl rfl;have a1:=t2 1 y _ rfl rfl;have a2:=t2 2 z _ rfl rfl;generalize ks[i.1]=e at a0 a1 a2;cases a0 with
          | str s hs=>cases a1 with
            | str s' hs'=>cases a2 with
              | bool bb=>exact ⟨rfl,hs,hs'⟩
       have hL:(List.finRange ents.size).map (fun i=>ks[i.1]'(by rw [← hn];exact i.2))=ks:=by
        apply List.ext_getElem (by simp [hn]);intro i h1 h2;simp
       have hlen:∀ e∈dD ks,e.1.length≤maxLen∧e.2.1.length≤maxLen:=fun e he=>by
        obtain ⟨i,hi,rfl⟩:=List.mem_iff_getElem.1 ((fP ks).mem_iff.1 he);exact (hkv ⟨i,by rw [hn];exact hi⟩).2
       have hcon:=Tryz.KI ⟨b',0,none⟩ r' ents clock _ (fun i=>(hkv i).1) e5 w hm e2 (by omega);rw [hL] at hcon;refine hcon.mono ?_;rintro e w' ⟨v,rfl,hrow,hB⟩
       refine ⟨v,β,fun b=>ok b∨(w.heap.size≤b∧b<w'.heap.size),rfl,fun _ _=>rfl,.d _ _ ?_,fun k r h=>(by cases h),fun k r b h=>(by cases h),fun k k' r r' b h=>(by cases h),
        fun b hb=>hb.elim (fun h=>Nat.lt_of_lt_of_le (hokb b h) hB.size) (fun h=>h.2),fun b h => .inl h,fun b hb=>hb.elim .inl (fun h => .inr (.inl h.1)),AQ hB⟩
       have hlm:ents.size=((dD ks).map egD).length:=(by rw [List.length_map,(fP ks).length_eq,hn]);rw [hlm] at hrow;refine Uo (by decide) (fun x hx=>?_) hrow (fun i x j cc hx hc=>?_) (fun b h1 h2 => .inr ⟨h1,h2⟩)
       ·obtain ⟨s,_,rfl⟩:=List.mem_map.1 hx;rfl
       ·simp only [List.getElem?_map,Option.map_eq_some_iff] at hx;obtain ⟨s,hs,rfl⟩:=hx;obtain ⟨l1,l2⟩:=hlen s (List.mem_of_getElem? hs);have hj:j<3:=(List.getElem?_eq_some_iff.1 hc).1;rw [Zn _ i j s hs hj]
        match j,hj,hc with
        | 0,_,hc=>
          obtain rfl:D.str s.1=cc:=by simpa [egD,D.cells] using hc
          exact ⟨encStr s.1,rfl,.str _ l1,rfl,rfl⟩
        | 1,_,hc=>
          obtain rfl:D.str s.2.1=cc:=by simpa [egD,D.cells] using hc
          exact ⟨encStr s.2.1,rfl,.str _ l2,rfl,rfl⟩
        | 2,_,hc=>
          obtain rfl:D.bool s.2.2=cc:=by simpa [egD,D.cells] using hc
          exact ⟨.bool s.2.2,rfl,.bool _,rfl,rfl⟩
def mpE (l:List Eg):List (D×D):=l.map fun e=>(egD e,.bool true)
theorem VB (a b:Eg):aF (egD a).cells (egD b).cells=decide (a=b):=VD a b.1 b.2.1 b.2.2
theorem DW (e:Eg):∀ l:List Eg,Abs.look (mpE l) (egD e)=match l.any (fun x=>decide (e=x)) with | true=>some (.bool true) | false=>none
 | []=>rfl
 | x::l=>by
   show (match aF (egD e).cells (egD x).cells with | true=>some (D.bool true) | false=>Abs.look (mpE l) (egD e))=_;rw [VB,DW e l,List.any_cons];cases decide (e=x)<;>rfl
theorem Ji (e:Eg):∀ l:List Eg,(∀ x∈l,x≠e)→oC (mpE l) (egD e) (.bool true)=mpE (l++[e])
 | [],_=>rfl
 | x::l,h=>by
   show (match aF (egD e).cells (egD x).cells with | true=>(egD e,D.bool true)::mpE l | false=>(egD x,D.bool true)::oC (mpE l) (egD e) (.bool true))=_;rw [VB,decide_eq_false (fun h'=>h x (by simp) h'.symm),Ji e l fun y hy=>h y (by simp [hy])];rfl
theorem BN {te:TE} (h:te.ks=[.s,.s,.b]) (hk:te.k.isAgg=true) (l:List Eg):∀ e∈mpE l,bY te e.1=true:=fun e he=>by
 obtain ⟨x,_,rfl⟩:=List.mem_map.1 he;unfold bY;rw [h];simp [egD,D.cells,gJ,kF,D.one,hk]
theorem OH {E:List Eg} (h:E.Nodup) {i:Nat} (hi:i<E.length):∀ x∈E.take i,x≠E[i]:=fun x hx e=>by
 obtain ⟨j,hj,rfl⟩:=List.mem_iff_getElem.1 hx;rw [List.length_take] at hj;rw [List.getElem_take] at e;exact List.pairwise_iff_getElem.1 (List.nodup_iff_pairwise_ne.1 h) j i (by omega) hi (by omega) e
theorem Tryz.edges (E:List Eg) (hd:∀ e∈E,e.1≠dist∧e.2.1≠dist) (hnd:E.Nodup) (hE:E.length≤10000) :
  Pure Tryz.prog 137 [.list (E.map enR)] [.list ((dD E).map egD)]:=by
 refine Pure.of_wp hT (nt:=_) (c:=_) Tryz.func137 rfl rfl rfl rfl (by kernel_rfl) ?_;intro w0 ok0 β0;repeat (refine gw rfl ?_;conv=>whnf)
 refine WP.loop (α:=Nat) (fun i=>⟨[(0,.d (.list (E.map enR))),(3,.map 8),(9,.d (.list (E.map enR))),(10,.d (.int .i64 E.length)),(11,.d (.int .i64 i))],[((8,0),some (.map (mpE (E.take i))))],[8]⟩)
  (fun i=>i≤E.length) (fun i=>E.length-i) 0 [(8,some 8)] [] ?_ ?_ ?_
 ·rw [List.length_map];((conv=>whnf);repeat (first | exact ⟨⟩ | (refine ⟨by first | rfl | (simp;done) | (simp;omega),?_⟩;conv=>whnf)))
 ·exact Nat.zero_le _
 ·intro i hi;repeat (refine gw rfl ?_;conv=>whnf)
  (split<;>rename_i hb<;>(try rw [hb])<;>(conv=>whnf))
  ·have hlt:i<E.length:=(by simpa using hb);clear hb;obtain ⟨hd1,hd2⟩:=hd E[i] (List.getElem_mem hlt);(repeat (refine gw rfl ?_;conv=>whnf));refine ⟨by omega,_,Z5 hlt,rfl,?_⟩;(conv=>whnf);(repeat (refine gw rfl ?_;conv=>whnf));rw [show (E[i].1==({ data:=#[100,105,115,116,105,110,99,116] }:ByteArray).data.toList)=false from beq_false_of_ne hd1];(conv=>whnf);(repeat (refine gw rfl ?_;conv=>whnf));refine WP.loop (α:=Nat) (fun k=>⟨[(0,.d (.list (E.map enR))),(3,.map 8),(5,.ptr 5 0),(9,.d (.list (E.map enR))),(10,.d (.int .i64 E.length)),(11,.d (.int .i64 i)),(20,.d (.list [bdD E[i]])),(21,.d (.int .i64 1)),(22,.d (.int .i64 k))],[((8,0),some (.map (mpE (E.take (i+k))))),((5,0),some (.cell (.d (.str E[i].1)))),((5,1),some (.cell (.d (.list [])))),((5,2),some (.cell (.d (.list [bdD E[i]]))))],[8,5]⟩)
    (fun k=>k≤1) (fun k=>1-k) 0 [(8,some 8),(5,some 5)] [] ?_ ?_ ?_
   ·((conv=>whnf);repeat (first | exact ⟨⟩ | (refine ⟨by first | rfl | (simp;done) | (simp;omega),?_⟩;conv=>whnf)))
   ·exact Nat.zero_le _
   ·intro k hk;(repeat (refine gw rfl ?_;conv=>whnf));(split<;>rename_i hb<;>(try rw [hb])<;>(conv=>whnf))
    ·have hk0:k=0:=by have:(k:Int)<1:=by simpa using hb
                      omega
     subst hk0;clear hb;(repeat (refine gw rfl ?_;conv=>whnf));refine ⟨by omega,_,rfl,rfl,?_⟩;(conv=>whnf);(repeat (refine gw rfl ?_;conv=>whnf));rw [show (E[i].2.1==({ data:=#[100,105,115,116,105,110,99,116] }:ByteArray).data.toList)=false from beq_false_of_ne hd2];(conv=>whnf);(repeat (refine gw rfl ?_;conv=>whnf));refine ⟨rfl,?_⟩;(conv=>whnf);refine ⟨rfl,?_⟩;(conv=>whnf);refine ⟨rfl,?_⟩;(conv=>whnf);refine ⟨BN rfl rfl _,?_⟩
     rw [show oC (mpE (E.take (i+0))) _ (D.bool true)=mpE (E.take (i+1)) from by
      rw [List.take_succ_eq_append_getElem hlt];exact Ji E[i] (E.take i) (OH hnd hlt)]
     (conv=>whnf);(repeat (refine gw rfl ?_;conv=>whnf));refine ⟨by omega,?_⟩;(conv=>whnf);refine ⟨1,[(8,some 8),(5,some 5)],[],?_,by omega,by omega⟩;((conv=>whnf);repeat (first | exact ⟨⟩ | (refine ⟨by first | rfl | (simp;done) | (simp;omega),?_⟩;conv=>whnf)))
    ·have hk1:k=1:=by have:¬ (k:Int)<1:=by simpa using hb
                      omega
     subst hk1;clear hb;(repeat (refine gw rfl ?_;conv=>whnf));refine ⟨by omega,?_⟩;(conv=>whnf);refine ⟨i+1,[(8,some 8)],[],?_,by omega,by omega⟩;((conv=>whnf);repeat (first | exact ⟨⟩ | (refine ⟨by first | rfl | (simp;done) | (simp;omega),?_⟩;conv=>whnf)))
  ·have:i=E.length:=(by simp at hb;omega);subst this;clear hb;rw [List.take_length];(repeat (refine gw rfl ?_;conv=>whnf));refine .inr ⟨_,_,_,_,_,_,Tryz.Y3 (mpE E),[(0,8),(1,43)],[43],rfl,rfl,?_⟩;(conv=>whnf);refine ⟨rfl,?_⟩;(conv=>whnf);refine .inr ⟨_,_,_,_,_,_,Tryz.Ua (mpE E) E (by unfold mpE;rw [List.map_map];rfl) (by omega),[(0,8),(1,43)],[],rfl,rfl,?_⟩;(conv=>whnf);refine ⟨rfl,rfl,?_⟩;(conv=>whnf);repeat (refine gw rfl ?_;conv=>whnf)
end Go.Proofs.YtdonenoiehdahaaGreat
namespace Go.Proofs.YtdonenoiehdahaaGreat
open Go Go.Abs Go.Own
attribute [local irreducible] WP
theorem Tryz.step (e:Eg):Pure Tryz.prog 138 [.agg [.str e.1,.str e.2.1,.bool e.2.2]] [.int .i64 ((fM e:Nat):Int)]:=by
 refine Pure.of_wp hT (nt:=_) (c:=_) Tryz.func138 rfl rfl rfl rfl (by kernel_rfl) ?_;intro w0 ok0 β0;obtain ⟨a,b,c⟩:=e;repeat (refine gw rfl ?_;conv=>whnf)
 cases c with
 | true=>
   (conv=>whnf);(repeat (refine gw rfl ?_;conv=>whnf));rfl
 | false=>
   (conv=>whnf);(repeat (refine gw rfl ?_;conv=>whnf));rfl
def lkN:List (Str×Nat)→Str→Nat
 | [],_=>0
 | e::es,s=>match decide (s=e.1) with | true=>e.2 | false=>lkN es s
def ptN:List (Str×Nat)→Str→Nat→List (Str×Nat)
 | [],s,n=>[(s,n)]
 | e::es,s,n=>match decide (s=e.1) with | true=>(s,n)::es | false=>e::ptN es s n
def toD (es:List (Str×Nat)):List (Str×D):=es.map fun e=>(e.1,D.int .i64 (e.2:Nat))
def mpL (es:List (Str×Nat)):List (D×D):=mpS (toD es)
theorem yc (s:Str):∀ es:List (Str×Nat),(Abs.look (mpL es) (.str s)).getD (.int .i64 0) = .int .i64 (lkN es s:Nat)
 | []=>rfl
 | e::es=>by
   unfold mpL;rw [DV];have ih:=yc s es;unfold mpL at ih;rw [DV] at ih;show Option.getD (match decide (s=e.1) with | true=>some (D.int .i64 (e.2:Nat)) | false=>lkS (toD es) s) _=D.int .i64 ((match decide (s=e.1) with | true=>e.2 | false=>lkN es s:Nat):Int);cases decide (s=e.1) with
   | true=>rfl
   | false=>exact ih
theorem WZ (s:Str) (n:Nat) (es:List (Str×Nat)):oC (mpL es) (.str s) (.int .i64 (n:Nat))=mpL (ptN es s n):=by
 unfold mpL;rw [BH];congr 1
 induction es with
 | nil=>rfl
 | cons e es ih=>
   show (match decide (s=e.1) with | true=>(s,D.int .i64 (n:Nat))::toD es | false=>(e.1,D.int .i64 (e.2:Nat))::ptS (toD es) s (.int .i64 (n:Nat)))=toD (match decide (s=e.1) with | true=>(s,n)::es | false=>e::ptN es s n);rw [ih];cases decide (s=e.1)<;>rfl
theorem QB (s:Str) (n:Nat) (es:List (Str×Nat)):lkN (ptN es s n)=raise (lkN es) s n:=by
 funext x;unfold raise
 induction es with
 | nil=>
   show (match decide (x=s) with | true=>n | false=>0)=_;by_cases h:x=s<;>simp [h,lkN]
 | cons e es ih=>
   show lkN (match decide (s=e.1) with | true=>(s,n)::es | false=>e::ptN es s n) x=if x=s then n else (match decide (x=e.1) with | true=>e.2 | false=>lkN es x)
   by_cases h:s=e.1
   ·rw [decide_eq_true h];show (match decide (x=s) with | true=>n | false=>lkN es x)=_;by_cases h':x=s
    ·simp [h']
    ·have:¬ x=e.1:=fun e'=>h' (e'.trans h.symm)
     simp [h',this]
   ·rw [decide_eq_false h];show (match decide (x=e.1) with | true=>e.2 | false=>lkN (ptN es s n) x)=_;rw [ih];by_cases h':x=e.1
    ·have:¬ x=s:=fun e'=>h (e'.symm.trans h')
     simp [h',Ne.symm h]
    ·simp [h']
theorem BM {te:TE} (h:te.ks=[.s]) (hk:te.k.isAgg=false) (es:List (Str×Nat)):∀ e∈mpL es,bY te e.1=true:=BL h hk _
def Ny (k:Nat):Bool→Nat→Bool:=fun up need=>match up with | true=>decide (k≤need) | false=>false
def zx (names:List Str) (E:List Eg):Option (Str→Nat):=bD (Ny names.length) E (room names.length names (fun _=>0)+1) (fun _=>0)
theorem Yc {k:Nat}:∀ u n,Ny k u n=true→k≤n:=fun u n h=>by
 cases u with
 | true=>exact of_decide_eq_true h
 | false=>cases h
theorem Rk {k:Nat}:∀ u n,Ny k u n=false→u=true→n≤k:=fun u n h hu=>by
 subst hu;have:=of_decide_eq_false h;omega
theorem Dj {E:List Eg}:∀ e∈E,e.1∈qR E∧e.2.1∈qR E:=fun e he=>
 ⟨(lT _).mem_iff.2 (DN.2 ⟨e,he,.inl rfl⟩),(lT _).mem_iff.2 (DN.2 ⟨e,he,.inr rfl⟩)⟩
theorem Lc (E:List Eg):(qR E).length≤2*E.length:=by
 unfold qR;rw [(lT _).length_eq];have:=LU E;unfold vS
 rwa [List.length_map]
set_option maxRecDepth 10000 in
theorem Tryz.levels (E:List Eg) (hd:∀ e∈E,e.1≠dist∧e.2.1≠dist) (hnd:E.Nodup) (hE:E.length≤10000) :
  Pure Tryz.prog 114 [.list (E.map enR)] (match zx (qR E) (dD E) with | some lv=>[.list (lvD (qR E) lv),.int .i64 0] | none=>[.list [],.int .i64 10]):=by
 have hm:∀ e∈dD E,e.1∈qR E∧e.2.1∈qR E:=fun e he=>Dj e ((fP E).mem_iff.1 he)
 have hn:=Lc E;have hEl:(dD E).length≤10000:=by rw [(fP E).length_eq];exact hE
 have hrel:=Tryz.relations E hd hE;have hedg:=Tryz.edges E hd hnd hE;generalize hG:E.map enR=LE at hrel hedg ⊢;clear hG;generalize qR E=names at hm hn hrel ⊢;generalize dD E=G at hm hEl hedg ⊢;clear hd hnd;refine Pure.of_wp hT (nt:=_) (c:=_) Tryz.func114 rfl rfl rfl rfl (by kernel_rfl) ?_;intro w0 ok0 β0;repeat (refine gw rfl ?_;conv=>whnf)
 refine .inl ⟨_,hrel,.inl rfl,?_⟩;conv=>whnf
 repeat (refine gw rfl ?_;conv=>whnf)
 refine .inl ⟨_,hedg,.inl rfl,?_⟩;conv=>whnf
 repeat (refine gw rfl ?_;conv=>whnf)
 refine WP.loop (α:=List (Str×Nat)×Bool×Nat) (fun y=>⟨[(0,.d (.list LE)),(4,.d (.list (names.map D.str))),(5,.d (.list (G.map egD))),(6,.map 18),(7,.d (.bool y.2.1))],[((18,0),some (.map (mpL y.1)))],[18]⟩)
  (fun y=>match y.2.1 with | true=>zx names G=bD (Ny names.length) G y.2.2 (lkN y.1)∧room names.length names (lkN y.1)<y.2.2∧∀ x∈names,lkN y.1 x≤names.length | false=>zx names G=some (lkN y.1)∧y.2.2=0) (fun y=>y.2.2) ([],true,room names.length names (fun _=>0)+1) [(18,some 18)] [] ?_ ?_ ?_
 ·((conv=>whnf);repeat (first | exact ⟨⟩ | (refine ⟨by first | rfl | (simp;done) | (simp;omega),?_⟩;conv=>whnf)))
 ·exact ⟨rfl,Nat.lt_succ_self _,fun x _=>Nat.zero_le _⟩
 ·rintro ⟨es,more,F⟩ hI;cases more with
  | false=>
    obtain ⟨hI,_⟩:=hI;dsimp only at hI;rw [hI];(repeat (refine gw rfl ?_;conv=>whnf));refine WP.loop (α:=Nat) (fun i=>⟨[(4,.d (.list (names.map D.str))),(6,.map 18),(11,.sl 11 2 0 i),(48,.d (.list (names.map D.str))),(49,.d (.int .i64 names.length)),(50,.d (.int .i64 i))],[((18,0),some (.map (mpL es))),((11,0),some (.arr 2 (lvD (names.take i) (lkN es))))],[18,11]⟩)
     (fun i=>i≤names.length) (fun i=>names.length-i) 0 [(18,some 18),(11,none)] [] ?_ ?_ ?_
    ·rw [List.length_map];((conv=>whnf);repeat (first | exact ⟨⟩ | (refine ⟨by first | rfl | (simp;done) | (simp;omega),?_⟩;conv=>whnf)))
    ·exact Nat.zero_le _
    ·intro i hi;(repeat (refine gw rfl ?_;conv=>whnf));(split<;>rename_i hb<;>(try rw [hb])<;>(conv=>whnf))
     ·have hlt:i<names.length:=(by simpa using hb);clear hb;(repeat (refine gw rfl ?_;conv=>whnf));refine ⟨by omega,_,ay hlt,rfl,?_⟩;(conv=>whnf);(repeat (refine gw rfl ?_;conv=>whnf));refine ⟨BM rfl rfl _,?_⟩;(conv=>whnf);rw [yc];(conv=>whnf);refine ⟨rfl,?_⟩;(conv=>whnf);refine ⟨rfl,?_⟩;(conv=>whnf);refine ⟨rfl,?_⟩;(conv=>whnf);refine ⟨lvD (names.take i) (lkN es),by rw [List.drop_zero];exact List.take_of_length_le (by simp only [lvD,List.length_map,List.length_take];omega),by simp only [lvD,List.length_map,List.length_take];omega,?_⟩;(conv=>whnf);refine ⟨_,rfl,Nat.le_refl _,?_⟩;(conv=>whnf);refine ⟨by show (_+1)*24≤_;simp only [lvD,List.length_map,List.length_take];omega,?_⟩;(conv=>whnf);(repeat (refine gw rfl ?_;conv=>whnf));refine ⟨by omega,?_⟩;(conv=>whnf);refine ⟨i+1,[(18,some 18),(11,some 61)],[],?_,by omega,by omega⟩;have e1:(lvD (names.take i) (lkN es)).length+(List.take [D.agg [D.str names[i],D.int .i64 (lkN es names[i]:Nat)]].length (List.drop 0 [D.agg [D.str names[i],D.int .i64 (lkN es names[i]:Nat)]])).length=i+1:=(by simp only [lvD,List.length_map,List.length_take,List.drop_zero,List.length_singleton];omega);have e2:lvD (names.take i) (lkN es)++List.take [D.agg [D.str names[i],D.int .i64 (lkN es names[i]:Nat)]].length (List.drop 0 [D.agg [D.str names[i],D.int .i64 (lkN es names[i]:Nat)]])=lvD (names.take (i+1)) (lkN es):=by
       unfold lvD;rw [List.take_succ_eq_append_getElem hlt,List.map_append];rfl
      rw [e1,e2];((conv=>whnf);repeat (first | exact ⟨⟩ | (refine ⟨by first | rfl | (simp;done) | (simp;omega),?_⟩;conv=>whnf)))
     ·have:i=names.length:=(by simp at hb;omega);subst this;clear hb;rw [List.take_length];(repeat (refine gw rfl ?_;conv=>whnf));refine ⟨lvD names (lkN es),by rw [List.drop_zero];exact List.take_of_length_le (by simp [lvD]),by simp [lvD],?_⟩;conv=>whnf
  | true=>
    obtain ⟨hI,hF,hl0⟩:=hI;dsimp only at hI hF hl0 ⊢;obtain ⟨F,rfl⟩:∃ F',F=F'+1:=⟨F-1,by omega⟩
    (repeat (refine gw rfl ?_;conv=>whnf));refine WP.loop (α:=List (Str×Nat)×Bool×Nat) (fun y=>⟨[(0,.d (.list LE)),(4,.d (.list (names.map D.str))),(5,.d (.list (G.map egD))),(6,.map 18),(7,.d (.bool y.2.1)),(20,.d (.list (G.map egD))),(21,.d (.int .i64 G.length)),(22,.d (.int .i64 y.2.2))],[((18,0),some (.map (mpL y.1)))],[18]⟩)
     (fun y=>y.2.2≤G.length∧dW (Ny names.length) G (lkN es) false=dW (Ny names.length) (G.drop y.2.2) (lkN y.1) y.2.1∧∀ x∈names,lkN y.1 x≤names.length) (fun y=>G.length-y.2.2) (es,false,0) [(18,some 18)] [] ?_ ?_ ?_
    ·rw [List.length_map];((conv=>whnf);repeat (first | exact ⟨⟩ | (refine ⟨by first | rfl | (simp;done) | (simp;omega),?_⟩;conv=>whnf)))
    ·exact ⟨Nat.zero_le _,rfl,hl0⟩
    ·rintro ⟨et,mo,j⟩ ⟨hj,hrel,hlw⟩;dsimp only at hj hrel hlw ⊢;(repeat (refine gw rfl ?_;conv=>whnf));(split<;>rename_i hb<;>(try rw [hb])<;>(conv=>whnf))
     ·have hjl:j<G.length:=(by simpa using hb);clear hb;obtain ⟨hfm,htm⟩:=hm G[j] (List.getElem_mem hjl);have hl1:=hlw _ htm;have hst:fM G[j]≤1:=(by unfold fM;split<;>omega);rw [List.drop_eq_getElem_cons hjl,rU] at hrel;(repeat (refine gw rfl ?_;conv=>whnf));refine ⟨by omega,_,Ve hjl,rfl,?_⟩;(conv=>whnf);(repeat (refine gw rfl ?_;conv=>whnf));refine ⟨BM rfl rfl _,?_⟩;(conv=>whnf);rw [yc];(conv=>whnf);refine .inl ⟨_,Tryz.step G[j],.inl rfl,?_⟩;(conv=>whnf);refine ⟨by omega,?_⟩;rw [show ((lkN et G[j].2.1:Nat):Int)+((fM G[j]:Nat):Int)=((lkN et G[j].2.1+fM G[j]:Nat):Int) by omega];generalize hnd:lkN et G[j].2.1+fM G[j]=nd at hrel ⊢;(conv=>whnf);(repeat (refine gw rfl ?_;conv=>whnf));refine ⟨BM rfl rfl _,?_⟩;(conv=>whnf);rw [yc];(conv=>whnf);(repeat (refine gw rfl ?_;conv=>whnf));have hnb:nd≤names.length+1:=(by omega);by_cases hup:lkN et G[j].1<nd
      ·rw [decide_eq_true hup] at hrel;rw [show decide (((lkN et G[j].1:Nat):Int)<((nd:Nat):Int))=true from decide_eq_true (by omega)];(conv=>whnf);(repeat (refine gw rfl ?_;conv=>whnf));refine ⟨BM rfl rfl _,?_⟩;rw [WZ];(conv=>whnf);(repeat (refine gw rfl ?_;conv=>whnf));rw [List.length_map];by_cases hge:names.length≤nd
       ·rw [show Ny names.length true nd=true from decide_eq_true hge] at hrel;rw [show decide (((nd:Nat):Int)≥((names.length:Nat):Int))=true from decide_eq_true (by omega)];unfold bD at hI;rw [hrel] at hI;rw [hI];(conv=>whnf);repeat (refine gw rfl ?_;conv=>whnf)
       ·rw [show Ny names.length true nd=false from decide_eq_false hge] at hrel;rw [show decide (((nd:Nat):Int)≥((names.length:Nat):Int))=false from decide_eq_false (by omega)];(conv=>whnf);(repeat (refine gw rfl ?_;conv=>whnf));refine ⟨by omega,?_⟩;(conv=>whnf);refine ⟨(ptN et G[j].1 nd,true,j+1),[(18,some 18)],[],?_,⟨by dsimp only;omega,?_,fun x hx=>?_⟩,by dsimp only;omega⟩
        ·((conv=>whnf);repeat (first | exact ⟨⟩ | (refine ⟨by first | rfl | (simp;done) | (simp;omega),?_⟩;conv=>whnf)))
        ·dsimp only;rw [QB,hrel,Bool.or_true];rfl
        ·dsimp only;rw [QB];unfold raise;split
         ·omega
         ·exact hlw x hx
      ·rw [decide_eq_false hup] at hrel;rw [show decide (((lkN et G[j].1:Nat):Int)<((nd:Nat):Int))=false from decide_eq_false (by omega)];(conv=>whnf);(repeat (refine gw rfl ?_;conv=>whnf));refine ⟨by omega,?_⟩;(conv=>whnf);refine ⟨(et,mo,j+1),[(18,some 18)],[],?_,⟨by dsimp only;omega,?_,hlw⟩,by dsimp only;omega⟩
       ·((conv=>whnf);repeat (first | exact ⟨⟩ | (refine ⟨by first | rfl | (simp;done) | (simp;omega),?_⟩;conv=>whnf)))
       ·dsimp only;rw [hrel,Bool.or_false];rfl
     ·have:j=G.length:=(by simp at hb;omega);subst this;clear hb;(repeat (refine gw rfl ?_;conv=>whnf));rw [List.drop_length] at hrel;refine ⟨(et,mo,match mo with | true=>F | false=>0),[(18,some 18)],[],?_,?_,?_⟩
      ·((conv=>whnf);repeat (first | exact ⟨⟩ | (refine ⟨by first | rfl | (simp;done) | (simp;omega),?_⟩;conv=>whnf)))
      ·dsimp only;unfold bD at hI;rw [hrel] at hI;cases mo with
       | false=>exact ⟨hI,rfl⟩
       | true=>
         refine ⟨hI,?_,hlw⟩;rcases nG Rk hm hrel with h | h
         ·cases h
         ·dsimp only;omega
      ·cases mo with
       | false=>exact Nat.succ_pos _
       | true=>exact Nat.lt_succ_self _
def ixL (n:Str):List Lv→Nat
 | []=>0
 | x::l=>if x.1=n then 0 else ixL n l+1
theorem U2 (n:Str):∀ l:List Lv,ixL n l≤l.length
 | []=>Nat.le_refl _
 | x::l=>by
   have:=U2 n l;unfold ixL;split<;>simp<;>omega
theorem UL (n:Str):∀ l:List Lv,ofL n l=match l[ixL n l]? with | some x=>x.2 | none=>-1
 | []=>rfl
 | x::l=>by
   unfold ofL ixL;by_cases h:x.1=n
   ·rw [if_pos h,if_pos h];rfl
   ·rw [if_neg h,if_neg h,List.getElem?_cons_succ,UL n l]
theorem U3 {n:Str} {l:List Lv} {i:Nat} (hi:i<l.length) (h:ixL n l=i+ixL n (l.drop i)):(l[i].1=n→ixL n l=i)∧(l[i].1≠n→ixL n l=(i+1)+ixL n (l.drop (i+1))):=by
 rw [List.drop_eq_getElem_cons hi,ixL] at h;constructor
 ·intro e;rw [if_pos e] at h;omega
 ·intro e;rw [if_neg e] at h;omega
theorem Tryz.ofEq (x:Lv) (n:Str):Pure Tryz.prog 140 [.agg [.str x.1,.int .i64 x.2],.ref [.str n] 0] [.bool (x.1==n)]:=by
 refine Pure.of_wp hT (nt:=_) (c:=_) Tryz.func140 rfl rfl rfl rfl (by kernel_rfl) ?_;intro w0 ok0 β0;repeat (refine gw rfl ?_;conv=>whnf)
theorem Tryz.Y7 (l:List Lv) (n:Str) (hl:l.length≤1000000):Pure Tryz.prog 139 [.list (l.map enV),.fn 140 [.ref [.str n] 0]] [.int .i64 (match decide (ixL n l<l.length) with | true=>((ixL n l:Nat):Int) | false=>-1)]:=by
 refine Pure.of_wp hT (nt:=_) (c:=_) Tryz.func139 rfl rfl rfl rfl (by kernel_rfl) ?_;intro w0 ok0 β0;repeat (refine gw rfl ?_;conv=>whnf)
 refine WP.loop (α:=Nat) (fun i=>⟨[(0,.d (.list (l.map enV))),(1,.d (.fn 140 [.ref [.str n] 0])),(7,.d (.int .i64 l.length)),(8,.d (.int .i64 i))],[],[]⟩) (fun i=>i≤l.length∧ixL n l=i+ixL n (l.drop i)) (fun i=>l.length-i) 0 [] [] ?_ ?_ ?_
 ·rw [List.length_map];((conv=>whnf);repeat (first | exact ⟨⟩ | (refine ⟨by first | rfl | (simp;done) | (simp;omega),?_⟩;conv=>whnf)))
 ·simp
 ·rintro i ⟨hi,hx⟩;repeat (refine gw rfl ?_;conv=>whnf)
  (split<;>rename_i hb<;>(try rw [hb])<;>(conv=>whnf))
  ·have hlt:i<l.length:=(by simpa using hb);clear hb;have hs:=U3 hlt hx;(repeat (refine gw rfl ?_;conv=>whnf));refine ⟨by omega,_,XD hlt,rfl,?_⟩;(conv=>whnf);refine .inl ⟨_,Tryz.ofEq l[i] n,.inl rfl,?_⟩;(conv=>whnf);by_cases e:l[i].1=n
   ·rw [show (l[i].1==n)=true by simpa using e];have h0:=hs.1 e;rw [h0,decide_eq_true hlt];repeat (refine gw rfl ?_;conv=>whnf)
   ·rw [show (l[i].1==n)=false by simpa using e];have h1:=hs.2 e;(repeat (refine gw rfl ?_;conv=>whnf));refine ⟨by omega,?_⟩;(conv=>whnf);refine ⟨i+1,[],[],?_,⟨by omega,h1⟩,by omega⟩;((conv=>whnf);repeat (first | exact ⟨⟩ | (refine ⟨by first | rfl | (simp;done) | (simp;omega),?_⟩;conv=>whnf)))
  ·have:i=l.length:=(by simp at hb;omega);subst this;clear hb;rw [List.drop_length] at hx;rw [show decide (ixL n l<l.length)=false from decide_eq_false (by rw [hx];simp [ixL])];repeat (refine gw rfl ?_;conv=>whnf)
theorem Tryz.ofP (l:List Lv) (n:Str) (hl:l.length≤1000000):Pure Tryz.prog 115 [.list (l.map enV),.str n] [.int .i64 (ofL n l)]:=by
 refine Pure.of_wp hT (nt:=_) (c:=_) Tryz.func115 rfl rfl rfl rfl (by kernel_rfl) ?_;intro w0 ok0 β0;have hle:=U2 n l;repeat (refine gw rfl ?_;conv=>whnf)
 refine .inl ⟨_,Tryz.Y7 l n hl,.inl rfl,?_⟩;rw [UL];by_cases h:ixL n l<l.length
 ·rw [decide_eq_true h,List.getElem?_eq_getElem h];dsimp only;conv=>whnf
  repeat (refine gw rfl ?_;conv=>whnf)
  rw [show decide (((ixL n l:Nat):Int)<0)=false from decide_eq_false (by omega)];conv=>whnf
  repeat (refine gw rfl ?_;conv=>whnf)
  refine ⟨by omega,_,XD h,rfl,?_⟩;conv=>whnf
  repeat (refine gw rfl ?_;conv=>whnf)
 ·rw [decide_eq_false h,List.getElem?_eq_none (by omega)];conv=>whnf
  repeat (refine gw rfl ?_;conv=>whnf)
theorem Tryz.relation (atoms:List Tm) (rules:List Gr) (a:Int) (h0:0≤a) (h1:a.toNat<atoms.length):Pure Tryz.prog 113 [gD atoms rules,.int .i64 a] [.agg [.str (nameAt atoms a),.list []]]:=by
 have hna:nameAt atoms a=atoms[a.toNat].name:=by unfold nameAt;rw [List.getElem?_eq_getElem h1]
 rw [hna];refine Pure.of_wp hT (nt:=_) (c:=_) Tryz.func113 rfl rfl rfl rfl (by kernel_rfl) ?_;intro w0 ok0 β0;repeat (refine gw rfl ?_;conv=>whnf)
 refine ⟨by omega,_,vU h1,rfl,?_⟩;conv=>whnf
 repeat (refine gw rfl ?_;conv=>whnf)
 refine ⟨rfl,?_⟩;conv=>whnf
 repeat (refine gw rfl ?_;conv=>whnf)
theorem Rw {L:List Eg} {e:Eg}:(L.any fun x=>decide (e=x))=true↔e∈L:=by
 simp
theorem Tryz.Wq (atoms:List Tm) (rules:List Gr) (L:List Eg) (h a:Int) (nt:Bool) (h0:0≤h) (h1:h.toNat<atoms.length) (a0:0≤a) (a1:a.toNat<atoms.length) (hm:(nameAt atoms h,nameAt atoms a,nt)∈L) :
  aH Tryz.prog 112 [4,17,5,18] [.d (.int .i64 h),.d (.int .i64 a),.d (.bool nt),.d (.ref [.list (atoms.map enT),.list (rules.map enG)] 0),.ptr 4 0,.ptr 5 0]
   [((4,0),.cell (.map 17)),((17,0),.map (mpE L)),((5,0),.cell (.sl 18 3 0 L.length)),((18,0),.arr 3 (L.map enR))] [] [] [((4,0),.cell (.map 17)),((17,0),.map (mpE L)),((5,0),.cell (.sl 18 3 0 L.length)),((18,0),.arr 3 (L.map enR))]:=by
 have hna:nameAt atoms h=atoms[h.toNat].name:=by unfold nameAt;rw [List.getElem?_eq_getElem h1]
 have hnb:nameAt atoms a=atoms[a.toNat].name:=by unfold nameAt;rw [List.getElem?_eq_getElem a1]
 have hlk:(Abs.look (mpE L) (.agg [.str atoms[h.toNat].name,.str atoms[a.toNat].name,.bool nt])).getD (.bool false) = .bool true:=by
  have:=DW (nameAt atoms h,nameAt atoms a,nt) L;rw [Rw.2 hm,hna,hnb] at this;exact congrArg (fun o:Option D=>o.getD (.bool false)) this
 refine aH.of_wp hT (nt:=_) (c:=_) Tryz.func112 rfl rfl rfl rfl (by kernel_rfl) rfl rfl ?_;intro w0 ok0 wr β0;repeat (refine gw rfl ?_;conv=>whnf)
 refine ⟨by omega,_,vU h1,rfl,?_⟩;conv=>whnf
 refine ⟨by omega,_,vU a1,rfl,?_⟩;conv=>whnf
 refine ⟨rfl,?_⟩;conv=>whnf
 refine ⟨rfl,?_⟩;conv=>whnf
 refine ⟨rfl,?_⟩;conv=>whnf
 repeat (refine gw rfl ?_;conv=>whnf)
 refine ⟨BN rfl rfl _,?_⟩;conv=>whnf
 rw [hlk];conv=>whnf
 repeat (refine gw rfl ?_;conv=>whnf)
 refine ⟨[(4,some 4),(17,some 17),(5,some 5),(18,some 18)],[],?_,rfl⟩;((conv=>whnf);repeat (first | exact ⟨⟩ | (refine ⟨by first | rfl | (simp;done) | (simp;omega),?_⟩;conv=>whnf)))
theorem Tryz.Ws (atoms:List Tm) (rules:List Gr) (L:List Eg) (h a:Int) (nt:Bool) (h0:0≤h) (h1:h.toNat<atoms.length) (a0:0≤a) (a1:a.toNat<atoms.length) (hm:(nameAt atoms h,nameAt atoms a,nt)∉L) (hL:L.length≤10000) :
  aH Tryz.prog 112 [4,17,5,18] [.d (.int .i64 h),.d (.int .i64 a),.d (.bool nt),.d (.ref [.list (atoms.map enT),.list (rules.map enG)] 0),.ptr 4 0,.ptr 5 0]
   [((4,0),.cell (.map 17)),((17,0),.map (mpE L)),((5,0),.cell (.sl 18 3 0 L.length)),((18,0),.arr 3 (L.map enR))] [42] [] [((4,0),.cell (.map 17)),((17,0),.map (mpE (L++[(nameAt atoms h,nameAt atoms a,nt)]))),((5,0),.cell (.sl 42 3 0 (L.length+1))),((42,0),.arr 3 ((L++[(nameAt atoms h,nameAt atoms a,nt)]).map enR))]:=by
 have hna:nameAt atoms h=atoms[h.toNat].name:=by unfold nameAt;rw [List.getElem?_eq_getElem h1]
 have hnb:nameAt atoms a=atoms[a.toNat].name:=by unfold nameAt;rw [List.getElem?_eq_getElem a1]
 have hlk:(Abs.look (mpE L) (.agg [.str atoms[h.toNat].name,.str atoms[a.toNat].name,.bool nt])).getD (.bool false) = .bool false:=by
  have:=DW (nameAt atoms h,nameAt atoms a,nt) L;rw [Bool.eq_false_iff.2 (fun e=>hm (Rw.1 e)),hna,hnb] at this;exact congrArg (fun o:Option D=>o.getD (.bool false)) this
 refine aH.of_wp hT (nt:=_) (c:=_) Tryz.func112 rfl rfl rfl rfl (by kernel_rfl) rfl rfl ?_;intro w0 ok0 wr β0;repeat (refine gw rfl ?_;conv=>whnf)
 refine ⟨by omega,_,vU h1,rfl,?_⟩;conv=>whnf
 refine ⟨by omega,_,vU a1,rfl,?_⟩;conv=>whnf
 refine ⟨rfl,?_⟩;conv=>whnf
 refine ⟨rfl,?_⟩;conv=>whnf
 refine ⟨rfl,?_⟩;conv=>whnf
 repeat (refine gw rfl ?_;conv=>whnf)
 refine ⟨BN rfl rfl _,?_⟩;conv=>whnf
 rw [hlk];conv=>whnf
 refine W7 ?_ rfl;conv=>whnf
 refine W1 ?_;refine W2 hT hM [] ?_;conv=>whnf
 refine ⟨BN rfl rfl _,?_⟩
 rw [show oC (mpE L) _ (D.bool true)=mpE (L++[(nameAt atoms h,nameAt atoms a,nt)]) from by
  have:=Ji (nameAt atoms h,nameAt atoms a,nt) L (fun x hx e=>hm (by rw [← e];exact hx));rw [hna,hnb] at this ⊢
  exact this]
 conv=>whnf
 refine W2 hT hM [39] ?_;conv=>whnf
 refine .inl ⟨_,Tryz.relation atoms rules h h0 h1,.inl rfl,?_⟩;conv=>whnf
 refine .inl ⟨_,Tryz.relation atoms rules a a0 a1,.inl rfl,?_⟩;conv=>whnf
 refine ⟨rfl,?_⟩;conv=>whnf
 refine ⟨rfl,?_⟩;conv=>whnf
 refine ⟨rfl,?_⟩;conv=>whnf
 refine ⟨rfl,?_⟩;conv=>whnf
 refine ⟨L.map enR,by rw [List.drop_zero];exact List.take_of_length_le (by simp),by simp,?_⟩;conv=>whnf
 refine ⟨_,rfl,Nat.le_refl _,?_⟩;conv=>whnf
 refine ⟨by show (_+1)*64≤_;rw [List.length_map];omega,?_⟩;conv=>whnf
 repeat (refine gw rfl ?_;conv=>whnf)
 refine ⟨[(4,some 4),(17,some 17),(5,some 5),(18,some 18),(42,some 42)],[],?_,rfl⟩;rw [List.map_append,List.map_singleton,show enR (nameAt atoms h,nameAt atoms a,nt)=D.agg [D.str (nameAt atoms h),D.list [],D.list [D.agg [D.bool nt,D.str (nameAt atoms a),D.list []]]] from rfl];((conv=>whnf);repeat (first | exact ⟨⟩ | (refine ⟨by first | rfl | (simp;done) | (simp;omega),?_⟩;conv=>whnf)))
end Go.Proofs.YtdonenoiehdahaaGreat
