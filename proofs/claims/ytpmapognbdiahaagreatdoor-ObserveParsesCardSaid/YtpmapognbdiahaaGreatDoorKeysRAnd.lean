/- A range over a map's entries as they lie, inside a fence; what the rounds have handed out is kept as a list of places. -/
import Derived.Maps.RangeRun
import Derived.Sort.MapsRangeIn
import Derived.RangeFuncGives
import Derived.RangeFuncSeq
import Derived.Test.YtpmapognbdiahaaGreatDoorProg
import Derived.Shelf.AbstractIn
import Derived.RangeFuncKeeps
import Derived.WalkKit
import Derived.OwnWalkIn
import Derived.TacticsInMore
import Derived.RegionIn
import Derived.LoopNIn
import Derived.LoopIn
import Derived.Sort.EncStr
import Derived.Shelf.SlIter.Sorted
import Derived.Shelf.SortM.Plain
import Derived.Shelf.SortM.SortNone
import Derived.Shelf.SlGeneric
import Derived.Ground.GgzProg
import Derived.Ground.SlgmProg
import Derived.RangeFuncNested
import Derived.RangeFuncBound
import Derived.RangeFuncCalls
import Derived.RangeFuncLeaves
import Derived.RangeFuncBox
import Derived.Maps.AppendAt
import Derived.Shelf.Abstract
import Derived.Shelf.SlSortCmp.SmallK
import Derived.Shelf.Small.Bits
import Derived.Ground.SlsfProg
import Derived.Ground.NamesProg
set_option linter.all false
namespace Go.Keys
open Go Go.RowKit Go.ChangeMaps
section
variable {F:Fence} {n:Nat} {P:Program} (w:World) {ops:Array Oper} {rest:List Oper} {o:Oper} {a:Act} {Q:Exit→Act→World→Prop}
theorem jT (hg:o.guard=none) (m:Operand) (t:TypeId) (hop:o.op=Op.range t m) (k e:TypeId) (ht:P.underlying t=some (.map k e)) (b:Nat) (es:Array MapEntry) (clock:Nat)
  (hm:a.eval m = .map (some b)) (hb:w.heap[b]?=some (.map es clock))
  (hK:wpListIn F n P ops Q rest (a.put o.dst (.pointer (some ⟨w.heap.size,0,none⟩))) (w.alloc (.mapIter (some b) clock #[] clock))) :
  wpListIn F n P ops Q (o::rest) a w:=by
 refine wpListIn_plain hg fun K' hK'=>?_
 unfold Oper.wpIn;refine ⟨by simp [Oper.about,hop],?_⟩;rw [Oper.semAt_plain F _ _ (by rw [hop];intro c hc';cases hc')];simp [execOp,hop,hm,run_range_map w t k e b es clock ht hb,Result.andThen];exact hK' _ _ hK
structure Seen (es:Array MapEntry) (seen:Array Nat) (xs:List (Fin es.size)):Prop where
 nd:xs.Nodup
 eq:seen.toList=xs.map fun i=>es[i].born
structure Under (es:Array MapEntry) (clock b r:Nat) (xs:List (Fin es.size)) (w:World):Prop where
 map:w.heap[b]?=some (.map es clock)
 iter:∃ seen,w.heap[r]?=some (.mapIter (some b) clock seen clock)∧Seen es seen xs
theorem Under.of_walks {es:Array MapEntry} {clock b r:Nat} {xs:List (Fin es.size)} {w w':World} (h:Under es clock b r xs w) (hk:KeepsWalks w w'):Under es clock b r xs w':=by
 obtain ⟨seen,h1,h2⟩:=h.iter;exact ⟨hk.same b _ h.map rfl,seen,hk.same r _ h1 rfl,h2⟩
theorem Under.walk {es:Array MapEntry} {clock b r:Nat} {xs:List (Fin es.size)} {w:World} (h:Under es clock b r xs w):∃ o:Obj,w.heap[r]?=some o∧o.isWalk=true:=by
 obtain ⟨seen,h1,h2⟩:=h.iter;exact ⟨_,h1,rfl⟩
theorem afb {n:Nat} {xs:List (Fin n)} (h:xs.Nodup):xs.length≤n:=by
 have:=(List.nodup_finRange n);have h1:xs.Perm ((List.finRange n).filter fun i=>decide (i∈xs)):=(List.perm_ext_iff_of_nodup h (this.filter _)).2 fun i=>by simp
 have h2:=List.length_filter_le (fun i=>decide (i∈xs)) (List.finRange n);rw [← h1.length_eq] at h2
 simpa using h2
theorem I5 {n:Nat} {xs:List (Fin n)} (h:xs.Nodup) (ha:∀ i,i∈xs):xs.Perm (List.finRange n):=
 (List.perm_ext_iff_of_nodup h (List.nodup_finRange n)).2 fun i=>⟨fun _=>List.mem_finRange i,fun _=>ha i⟩
theorem kS (hg:o.guard=none) (it:Operand) (hop:o.op=Op.next it false) (es:Array MapEntry) (clock b r:Nat) (xs:List (Fin es.size))
  (hst:(∀ m∈es.toList,m.born<clock)∧(es.toList.map (·.born)).Nodup)
  (hit:a.eval it = .pointer (some ⟨r,0,none⟩)) (h:Under es clock b r xs w) (hbr:b≠r)
  (hDone:(∀ i,i∈xs)→wpListIn F n P ops Q rest (a.put o.dst (.tuple #[.bool false])) w)
  (hMore:∀ (i:Fin es.size) (w':World),i∉xs→Under es clock b r (xs++[i]) w'→w.grownBy w' (some r)→w'.heap.size=w.heap.size →
   (Instr.entry (.pointer (some ⟨r,0,none⟩))).run P w' = .ok (.tuple #[es[i].key,es[i].val]) w'→wpListIn F n P ops Q rest (a.put o.dst (.tuple #[.bool true,es[i].key,es[i].val])) w') :
  wpListIn F n P ops Q (o::rest) a w:=by
 refine wpListIn_plain hg fun K' hK'=>?_
 unfold Oper.wpIn;refine ⟨by simp [Oper.about,hop],?_⟩;rw [Oper.semAt_plain F _ _ (by rw [hop];intro c hc';cases hc')];obtain ⟨seen,h1,h2⟩:=h.iter;have hrl:r<w.heap.size:=(Array.getElem?_eq_some_iff.1 h1).1;rcases run_next_at (P:=P) w o.type r b clock clock seen es clock h1 h.map hst.1 (Nat.le_refl _) with ⟨h0,hrun⟩ | ⟨e,he,w1,hw1,hrun⟩
 ·simp [execOp,hop,hit,hrun,Result.andThen];refine hK' _ _ (hDone fun i=>?_);have hi:es[i].born∈seen.toList:=by
   apply Decidable.by_contra;intro hn;have hm:es[i]∈leftOf es seen:=by
    unfold leftOf;rw [Array.mem_filter];refine ⟨by simp,?_⟩
    simpa using hn
   rw [Array.eq_empty_of_size_eq_zero h0] at hm;simp at hm
  rw [h2.eq] at hi;obtain ⟨j,hj,hjb⟩:=List.mem_map.1 hi;have:j=i:=by
   have hnd:=hst.2;rw [List.nodup_iff_pairwise_ne,List.pairwise_map] at hnd;rw [List.pairwise_iff_getElem] at hnd;apply Decidable.by_contra;intro hne;rcases Nat.lt_or_gt_of_ne (fun e=>hne (Fin.ext e)) with hlt | hlt
   ·exact hnd j.1 i.1 (by simp) (by simp) hlt (by simpa using hjb)
   ·exact hnd i.1 j.1 (by simp) (by simp) hlt (by simpa using hjb.symm)
  subst this;exact hj
 ·have hel:e∈es∧e.born∉seen:=by
   have he':e∈leftOf es seen:=(by simpa using he);unfold leftOf at he';rw [Array.mem_filter] at he';exact ⟨he'.1,by simpa using he'.2⟩
  obtain ⟨i,hi,rfl⟩:=Array.getElem_of_mem hel.1;simp [execOp,hop,hit,hrun,Result.andThen]
  have hnew:(⟨i,hi⟩:Fin es.size)∉xs:=fun hx=>hel.2 (by
   have:es[i].born∈seen.toList:=by rw [h2.eq];exact List.mem_map.2 ⟨⟨i,hi⟩,hx,rfl⟩
   simpa using this)
  have hw1h:w1.heap=w.heap:=by rcases hw1 with rfl | rfl<;>rfl
  have hset:(setBlock w1 r (.mapIter (some b) clock (seen.push es[i].born) clock)).heap=w.heap.setIfInBounds r (.mapIter (some b) clock (seen.push es[i].born) clock):=by
   show w1.heap.setIfInBounds _ _=_;rw [hw1h]
  have hr2:(setBlock w1 r (.mapIter (some b) clock (seen.push es[i].born) clock)).heap[r]?=some (.mapIter (some b) clock (seen.push es[i].born) clock):=by
   rw [hset];simp [hrl]
  have hb2:(setBlock w1 r (.mapIter (some b) clock (seen.push es[i].born) clock)).heap[b]?=some (.map es clock):=by
   rw [hset,Array.getElem?_setIfInBounds_ne (Ne.symm hbr)];exact h.map
  refine hK' _ _ (hMore ⟨i,hi⟩ _ hnew ⟨hb2,_,hr2,⟨?_,?_⟩⟩ ?_ ?_ ?_)
  ·exact List.nodup_append.2 ⟨h2.nd,by simp,fun a ha c hc=>by simp at hc;subst hc;exact fun e=>hnew (e ▸ ha)⟩
  ·simp [h2.eq]
  ·refine ⟨?_,?_,?_,by rw [hset];simp,fun k _ hk=>by rw [hset,Array.getElem?_setIfInBounds_ne (fun e=>hk (by rw [e]))]⟩<;>(rcases hw1 with rfl | rfl<;>rfl)
  ·rw [hset];simp
  ·exact run_entry_at _ r b clock seen es clock es[i] hr2 hb2 (by simp) hst.2
end
def NC (n r:Nat) (w:World):Nat:=match w.heap[r]? with | some (.mapIter _ _ seen _)=>n-seen.size | _=>0
theorem Under.uj {es:Array MapEntry} {clock b r:Nat} {xs:List (Fin es.size)} {w:World} (h:Under es clock b r xs w):NC es.size r w=es.size-xs.length:=by
 obtain ⟨seen,h1,h2⟩:=h.iter;unfold NC;rw [h1];show es.size-seen.size=es.size-xs.length;have:seen.size=xs.length:=by rw [← Array.length_toList,h2.eq,List.length_map]
 rw [this]
theorem Under.lt {es:Array MapEntry} {clock b r:Nat} {xs:List (Fin es.size)} {w:World} (h:Under es clock b r xs w) {i:Fin es.size} (hi:i∉xs):xs.length<es.size:=by
 obtain ⟨seen,h1,h2⟩:=h.iter;have:=afb (List.nodup_append.2 ⟨h2.nd,(by simp:[i].Nodup),fun a ha c hc=>by simp at hc;subst hc;exact fun e=>hi (e ▸ ha)⟩);simp at this;omega
end Go.Keys
namespace Go.Proofs
open Go.RowKit Go.Sort Go.Keys
set_option maxRecDepth 100000 in
set_option maxHeartbeats 1000000 in
theorem Tryz.aeN (F:Fence) (n:Nat) (hf:F.fn 355) (hro:F.round=none) (hn:1≤n) (l:Nat) (p:Addr) (b:Nat) (es:Array MapEntry) (clock:Nat) (kv:Fin es.size→List UInt8) (hkv:∀ i:Fin es.size,es[i].key=encStr (kv i))
  (hst:(∀ m∈es.toList,m.born<clock)∧(es.toList.map (·.born)).Nodup) (J Jx:List (Fin es.size)→World→Prop)
  (hY:∀ pre x W,J pre W→pre.length<es.size→YieldAt F (n-1) Tryz.prog l #[encStr (kv x)] W fun e W'=>(e = .returned (.bool true)∧J (pre++[x]) W'∧KeepsWalks W W')∨(e = .returned (.bool false)∧Jx (pre++[x]) W'))
  (W:World) (hJ:AbidesFrom W.heap.size J) (hm:W.cell? p=some (.map (some b))) (hb:W.heap[b]?=some (.map es clock)) (h0:J [] W) :
  CallsIn F n Tryz.prog 355 #[.func (.yield l) #[] #[],.pointer (some p)] W fun e W'=>(∃ v,e = .returned v)∧((∃ xs:List (Fin es.size),xs.Perm (List.finRange es.size)∧J xs W')∨∃ pre,True∧Jx pre W'):=by
 refine callsIn_of_wp Tryz.func355 rfl hf ?_ hro;simp only [Tryz.ntmps355,List.size_toArray,List.length_cons,List.length_nil,Nat.reduceAdd,Nat.reduceSub,Array.replicate_succ,Array.replicate_zero,List.push_toArray,List.append_toArray,List.nil_append,List.cons_append];have hbl:b<W.heap.size:=(Array.getElem?_eq_some_iff.1 hb).1
 gi_wp2_with (first
  | (gi_at_range;refine jT _ rfl _ 208 rfl 9 4 Tryz.underlying208 b es clock rfl hb ?_)
  | gi_in)
 have hU0:Under es clock b W.heap.size [] (W.alloc (.mapIter (some b) clock #[] clock)):=⟨(Below.heap_alloc _ _ b hbl).trans hb,#[],World.alloc_heap_new W _,⟨List.nodup_nil,rfl⟩⟩;have hJ0:J [] (W.alloc (.mapIter (some b) clock #[] clock)):=hJ _ _ _ none h0 (World.grownBy_alloc W _ none) (fun r e=>by cases e);generalize W.alloc (.mapIter (some b) clock #[] clock)=W0 at hU0 hJ0 ⊢
 go_frame
 gi_loopw [3] (fun _ wr=>∃ xs:List (Fin es.size),Under es clock b W.heap.size xs wr∧J xs wr)
  (fun _ wr=>NC es.size W.heap.size wr)
 case atStart=>exact ⟨[],hU0,hJ0⟩
 case round=>
  obtain ⟨xs,hU,hJs⟩:=hrel
  gi_wp2_with (first
   | (gi_at_next;refine kS _ rfl _ rfl es clock b W.heap.size xs hst rfl hU (by omega) ?_ ?_)
   | gi_in)
  ·intro hall
   gi_wp2
   go_end0
   obtain ⟨seen,_,hs⟩:=hU.iter;exact ⟨⟨_,rfl⟩,.inl ⟨xs,I5 hs.nd hall,hJs⟩⟩
  ·intro x w2 hx hU2 hg2 hs2 hen;have hJ2:J xs w2:=hJ xs wr w2 (some W.heap.size) hJs hg2 (fun r e=>by cases e;exact ⟨Nat.le_refl _,hU.walk⟩);have hlt:=hU.lt hx;have hkx:es[x.1].key=encStr (kv x):=hkv x;rw [hkx] at hen ⊢;obtain ⟨fn,tmps,assign,body,hy,hR⟩:=hY xs x w2 hJ2 hlt;clear hs2
   gi_wp2
   refine hR.mono ?_;rintro e W3 (⟨rfl,hJ3,hk3⟩ | ⟨rfl,hx3⟩)
   ·gi_wp2
    have hU3:=hU2.of_walks hk3
    go_roundw
    case rel=>exact ⟨xs++[x],hU3,hJ3⟩
    case measure=>rw [hU3.uj,hU.uj];simp;omega
   ·gi_wp2
    (try simp only [Exit.inBlock,Exit.then])
    refine bodyPost_ret (results_none rfl _ _ _) rfl ?_;exact ⟨⟨_,rfl⟩,.inr ⟨_,trivial,hx3⟩⟩
theorem Tryz.Iq (F:Fence) (n:Nat) (hf:F.fn 355) (hro:F.round=none) (hn:1≤n) (p:Addr) (b:Nat) (es:Array MapEntry) (clock:Nat) (kv:Fin es.size→List UInt8) (hkv:∀ i:Fin es.size,es[i].key=encStr (kv i))
  (hst:(∀ m∈es.toList,m.born<clock)∧(es.toList.map (·.born)).Nodup) (w:World) (hm:w.cell? p=some (.map (some b))) (hb:w.heap[b]?=some (.map es clock)) :
  SeqStopsK F n Tryz.prog 355 #[.pointer (some p)] (fun i:Fin es.size=>#[encStr (kv i)]) KeepsWalks (fun xs=>xs.Perm (List.finRange es.size)) (fun _=>True) es.size w:=by
 intro l J Jx W hW hJ hJx hY h0;have hp:p.block<w.heap.size:=by
  unfold World.cell? at hm;cases ho:w.heap[p.block]? with
  | none=>simp [ho] at hm
  | some o=>exact (Array.getElem?_eq_some_iff.1 ho).1
 exact Tryz.aeN F n hf hro hn l p b es clock kv hkv hst J Jx hY W hJ ((hW.cell hp).trans hm) ((hW.block b (Array.getElem?_eq_some_iff.1 hb).1).trans hb) h0
theorem Tryz.Ir (F:Fence) (n:Nat) (hf:F.fn 355) (hro:F.round=none) (hn:1≤n) (p:Addr) (b:Nat) (es:Array MapEntry) (clock:Nat) (kv:Fin es.size→List UInt8) (hkv:∀ i:Fin es.size,es[i].key=encStr (kv i))
  (hst:(∀ m∈es.toList,m.born<clock)∧(es.toList.map (·.born)).Nodup) (w:World) (hm:w.cell? p=some (.map (some b))) (hb:w.heap[b]?=some (.map es clock)) :
  SeqGives F n Tryz.prog 355 #[.pointer (some p)] encStr (fun ss=>∃ xs:List (Fin es.size),xs.Perm (List.finRange es.size)∧ss=xs.map kv) es.size w:=by
 intro l J W hW hJ hY h0;refine (Tryz.Iq F n hf hro hn p b es clock kv hkv hst w hm hb l (fun xs W=>J (xs.map kv) W) (fun _ _=>False) W hW (fun s=>hJ (s.map kv)) (fun _ _ _ _ h=>h.elim) ?_ h0).mono ?_
 ·intro pre x W1 hj hl;have:=hY (pre.map kv) (kv x) W1 hj (by simpa using hl);obtain ⟨fn,tmps,assign,body,hy,hR⟩:=this;exact ⟨fn,tmps,assign,body,hy,hR.mono fun e W' h => .inl (by simpa using h)⟩
 ·rintro e W' ⟨hv,⟨xs,hx,hj⟩ | ⟨_,_,h⟩⟩
  ·exact ⟨hv,_,⟨xs,hx,rfl⟩,hj⟩
  ·exact h.elim
end Go.Proofs
namespace Go.Proofs
open Go.RowKit Go.Maps Go.Sort Go.Shelf Go.Keys
def Tryz.sortedS_ren:Go.Shelf.Ren:=⟨fun | 6=>326 | 8=>353 | 9=>354 | 11=>376 | 13=>232 | 12=>377 | 23=>306 | 24=>307 | 14=>390 | 15=>391 | 16=>392 | 17=>393 | 18=>394 | 19=>395 | 20=>396 | 21=>397 | 22=>398 | 25=>402 | 26=>344 | 27=>345 | 28=>403 | 29=>404 | 30=>352 | 31=>405 | n=>n,fun | 26=>9 | 28=>51 | 24=>152 | 0=>0 | 3=>3 | 37=>149 | 48=>335 | 50=>337 | 4=>4 | 40=>329 | 39=>328 | 45=>92 | 5=>5 | 9=>9 | 51=>366 | 55=>370 | 57=>387 | 58=>388 | 33=>28 | n=>n,fun | n=>n⟩
theorem Tryz.sortedS:Go.Proofs.SlLaysZ.n6 Tryz.prog Tryz.sortedS_ren:={
 mixed:=by kernel_rfl
 f6:=⟨Tryz.f326.name,by decide,Tryz.func326.trans (congrArg some (by kernel_rfl))⟩
 f8:=⟨Tryz.f353.name,by decide,Tryz.func353.trans (congrArg some (by kernel_rfl))⟩
 f11:=⟨Tryz.f376.name,by decide,Tryz.func376.trans (congrArg some (by kernel_rfl))⟩
 t0:=Tryz.underlying0
 a0:=Tryz.isAgg0
 z0:=Tryz.sizeOf0
 v0:=Tryz.zeroValue0
 t24:=Tryz.underlying152
 a24:=Tryz.isAgg152
 z24:=Tryz.sizeOf152
 v24:=Tryz.zeroValue152
 t26:=Tryz.underlying9
 a26:=Tryz.isAgg9
 z26:=Tryz.sizeOf9
 v26:=Tryz.zeroValue9
 t28:=Tryz.underlying51
 a28:=Tryz.isAgg51
 z28:=Tryz.sizeOf51
 v28:=Tryz.zeroValue51
 i26:=by kernel_rfl }
def Tryz.sortS_ren:Go.Shelf.Ren:=⟨fun | 6=>354 | 8=>232 | 9=>377 | 19=>306 | 20=>307 | 21=>390 | 22=>391 | 23=>392 | 24=>393 | 25=>394 | 26=>395 | 27=>396 | 28=>397 | 29=>398 | 36=>402 | 31=>344 | 32=>345 | 37=>403 | 38=>404 | 39=>352 | 41=>405 | n=>n,fun | 27=>152 | 29=>9 | 3=>3 | 32=>149 | 26=>152 | 0=>0 | 44=>335 | 46=>337 | 4=>4 | 36=>329 | 35=>328 | 41=>92 | 5=>5 | 9=>9 | 53=>366 | 57=>370 | 63=>387 | 64=>388 | n=>n,fun | n=>n⟩
theorem Tryz.sortS:Go.Proofs.SlLaysM.n6 Tryz.prog Tryz.sortS_ren:={
 mixed:=by kernel_rfl
 f6:=⟨Tryz.f354.name,by decide,Tryz.func354.trans (congrArg some (by kernel_rfl))⟩
 f8:=Tryz.func232.trans (congrArg some (by kernel_rfl))
 f9:=⟨Tryz.f377.name,by decide,Tryz.func377.trans (congrArg some (by kernel_rfl))⟩
 f19:=Tryz.func306.trans (congrArg some (by kernel_rfl))
 f20:=Tryz.func307.trans (congrArg some (by kernel_rfl))
 f21:=⟨Tryz.f390.name,by decide,Tryz.func390.trans (congrArg some (by kernel_rfl))⟩
 f22:=⟨Tryz.f391.name,by decide,Tryz.func391.trans (congrArg some (by kernel_rfl))⟩
 f23:=⟨Tryz.f392.name,by decide,Tryz.func392.trans (congrArg some (by kernel_rfl))⟩
 f24:=⟨Tryz.f393.name,by decide,Tryz.func393.trans (congrArg some (by kernel_rfl))⟩
 f25:=⟨Tryz.f394.name,by decide,Tryz.func394.trans (congrArg some (by kernel_rfl))⟩
 f26:=⟨Tryz.f395.name,by decide,Tryz.func395.trans (congrArg some (by kernel_rfl))⟩
 f27:=⟨Tryz.f396.name,by decide,Tryz.func396.trans (congrArg some (by kernel_rfl))⟩
 f28:=⟨Tryz.f397.name,by decide,Tryz.func397.trans (congrArg some (by kernel_rfl))⟩
 f29:=⟨Tryz.f398.name,by decide,Tryz.func398.trans (congrArg some (by kernel_rfl))⟩
 f31:=Tryz.func344.trans (congrArg some (by kernel_rfl))
 f32:=Tryz.func345.trans (congrArg some (by kernel_rfl))
 f36:=⟨Tryz.f402.name,by decide,Tryz.func402.trans (congrArg some (by kernel_rfl))⟩
 f37:=⟨Tryz.f403.name,by decide,Tryz.func403.trans (congrArg some (by kernel_rfl))⟩
 f38:=⟨Tryz.f404.name,by decide,Tryz.func404.trans (congrArg some (by kernel_rfl))⟩
 f39:=⟨Tryz.f352.name,by decide,Tryz.func352.trans (congrArg some (by kernel_rfl))⟩
 f41:=⟨Tryz.f405.name,by decide,Tryz.func405.trans (congrArg some (by kernel_rfl))⟩
 t0:=Tryz.underlying0
 a0:=Tryz.isAgg0
 z0:=Tryz.sizeOf0
 v0:=Tryz.zeroValue0
 t3:=Tryz.underlying3
 a3:=Tryz.isAgg3
 z3:=Tryz.sizeOf3
 v3:=Tryz.zeroValue3
 t4:=Tryz.underlying4
 a4:=Tryz.isAgg4
 z4:=Tryz.sizeOf4
 v4:=Tryz.zeroValue4
 t5:=Tryz.underlying5
 a5:=Tryz.isAgg5
 z5:=Tryz.sizeOf5
 v5:=Tryz.zeroValue5
 t9:=Tryz.underlying9
 a9:=Tryz.isAgg9
 z9:=Tryz.sizeOf9
 v9:=Tryz.zeroValue9
 t26:=Tryz.underlying152
 a26:=Tryz.isAgg152
 z26:=Tryz.sizeOf152
 v26:=Tryz.zeroValue152
 t27:=Tryz.underlying152
 a27:=Tryz.isAgg152
 z27:=Tryz.sizeOf152
 v27:=Tryz.zeroValue152
 t29:=Tryz.underlying9
 a29:=Tryz.isAgg9
 z29:=Tryz.sizeOf9
 v29:=Tryz.zeroValue9
 t32:=Tryz.underlying149
 a32:=Tryz.isAgg149
 z32:=Tryz.sizeOf149
 v32:=Tryz.zeroValue149
 t35:=Tryz.underlying328
 a35:=Tryz.isAgg328
 z35:=Tryz.sizeOf328
 v35:=Tryz.zeroValue328
 t36:=Tryz.underlying329
 a36:=Tryz.isAgg329
 z36:=Tryz.sizeOf329
 v36:=Tryz.zeroValue329
 t41:=Tryz.underlying92
 a41:=Tryz.isAgg92
 z41:=Tryz.sizeOf92
 v41:=Tryz.zeroValue92
 t44:=Tryz.underlying335
 a44:=Tryz.isAgg335
 z44:=Tryz.sizeOf335
 v44:=Tryz.zeroValue335
 t46:=Tryz.underlying337
 a46:=Tryz.isAgg337
 z46:=Tryz.sizeOf337
 v46:=Tryz.zeroValue337
 t53:=Tryz.underlying366
 a53:=Tryz.isAgg366
 z53:=Tryz.sizeOf366
 v53:=Tryz.zeroValue366
 t57:=Tryz.underlying370
 a57:=Tryz.isAgg370
 z57:=Tryz.sizeOf370
 v57:=Tryz.zeroValue370
 t63:=Tryz.underlying387
 a63:=Tryz.isAgg387
 z63:=Tryz.sizeOf387
 v63:=Tryz.zeroValue387
 t64:=Tryz.underlying388
 a64:=Tryz.isAgg388
 z64:=Tryz.sizeOf388
 v64:=Tryz.zeroValue388 }
theorem Tryz.ad9 (m:Nat):AnyZ.SortsIn Tryz.prog Tryz.sortedS_ren Fence.wide m:=
 ⟨fun blk off cap ss W hH hblk hsz=>callsIn_wide.2 (AnyM.slices_Sort_string Tryz.sortS blk off cap ss W hH hblk hsz),
  fun p cap W=>callsIn_wide.2 (AnyM.slices_Sort_string_none Tryz.sortS p cap W)⟩
theorem Tryz.Jv (p:Addr) (b:Nat) (es:Array MapEntry) (clock:Nat) (kv:Fin es.size→List UInt8) (hkv:∀ i:Fin es.size,es[i].key=encStr (kv i))
  (hst:(∀ m∈es.toList,m.born<clock)∧(es.toList.map (·.born)).Nodup) (w:World) (hm:w.cell? p=some (.map (some b))) (hb:w.heap[b]?=some (.map es clock)) (L:List (List UInt8)) (hL:((List.finRange es.size).map kv).Perm L) (hs:L.Pairwise (·≤·)) (hN:es.size≤maxLen) (hNb:es.size*16≤140737488355328) :
  Calls Tryz.prog 326 #[.func (.func 355) #[] #[.pointer (some p)]] w fun e w'=>
   ∃ v,e = .returned v∧w'.ownsRow w.heap.size 9 1 v L.length (L.map encStr)∧Below w.heap.size w w'∧(L=[]→v = .slice none 0 0):=by
 have hseq:=Tryz.Ir Fence.wide 1 trivial rfl (by omega) p b es clock kv hkv hst w hm hb;have cS:=AnyZ.sorted_in Tryz.sortedS Fence.wide 4 trivial trivial trivial trivial rfl (by omega) (Tryz.ad9 _) (enters_of Tryz.func354 (by kernel_rfl) rfl) 355 #[.pointer (some p)] trivial (enters_of Tryz.func355 (by kernel_rfl) rfl) _ es.size hN hNb w hseq;refine (callsIn_wide.1 cS).mono ?_;rintro e w' ⟨v,ss,rfl,⟨xs,hx,rfl⟩,hrow,hnil,hB⟩;have h1:(xs.map kv).Perm L:=(hx.map kv).trans hL;have h2:((xs.map kv).mergeSort fun x y=>decide (x≤y))=L:=by
  have:=mergeSort_of_perm h1;unfold leB at this;rw [this];exact List.mergeSort_of_pairwise (hs.imp fun h=>by simpa using h)
 rw [h2,h1.length_eq] at hrow;exact ⟨v,rfl,hrow,hB,fun h0=>hnil.2 (by rw [h0] at h1;exact h1.eq_nil)⟩
end Go.Proofs
namespace Go.Proofs
open Go.RowKit Go.Sort Go.Keys
def lX (e:List UInt8×List UInt8×Bool):Value := .agg #[encStr e.1,encStr e.2.1,.bool e.2.2]
set_option maxRecDepth 100000 in
set_option maxHeartbeats 1000000 in
theorem Tryz.aeO (F:Fence) (n:Nat) (hf:F.fn 324) (hro:F.round=none) (hn:1≤n) (l:Nat) (p:Addr) (b:Nat) (es:Array MapEntry) (clock:Nat) (kv:Fin es.size→List UInt8×List UInt8×Bool) (hkv:∀ i:Fin es.size,es[i].key=lX (kv i))
  (hst:(∀ m∈es.toList,m.born<clock)∧(es.toList.map (·.born)).Nodup) (J Jx:List (Fin es.size)→World→Prop)
  (hY:∀ pre x W,J pre W→pre.length<es.size→YieldAt F (n-1) Tryz.prog l #[lX (kv x)] W fun e W'=>(e = .returned (.bool true)∧J (pre++[x]) W'∧KeepsWalks W W')∨(e = .returned (.bool false)∧Jx (pre++[x]) W'))
  (W:World) (hJ:AbidesFrom W.heap.size J) (hm:W.cell? p=some (.map (some b))) (hb:W.heap[b]?=some (.map es clock)) (h0:J [] W) :
  CallsIn F n Tryz.prog 324 #[.func (.yield l) #[] #[],.pointer (some p)] W fun e W'=>(∃ v,e = .returned v)∧((∃ xs:List (Fin es.size),xs.Perm (List.finRange es.size)∧J xs W')∨∃ pre,True∧Jx pre W'):=by
 refine callsIn_of_wp Tryz.func324 rfl hf ?_ hro;simp only [Tryz.ntmps324,List.size_toArray,List.length_cons,List.length_nil,Nat.reduceAdd,Nat.reduceSub,Array.replicate_succ,Array.replicate_zero,List.push_toArray,List.append_toArray,List.nil_append,List.cons_append];have hbl:b<W.heap.size:=(Array.getElem?_eq_some_iff.1 hb).1
 gi_wp2_with (first
  | (gi_at_range;refine jT _ rfl _ 299 rfl 247 4 Tryz.underlying299 b es clock rfl hb ?_)
  | gi_in)
 have hU0:Under es clock b W.heap.size [] (W.alloc (.mapIter (some b) clock #[] clock)):=⟨(Below.heap_alloc _ _ b hbl).trans hb,#[],World.alloc_heap_new W _,⟨List.nodup_nil,rfl⟩⟩;have hJ0:J [] (W.alloc (.mapIter (some b) clock #[] clock)):=hJ _ _ _ none h0 (World.grownBy_alloc W _ none) (fun r e=>by cases e);generalize W.alloc (.mapIter (some b) clock #[] clock)=W0 at hU0 hJ0 ⊢
 go_frame
 gi_loopw [3] (fun _ wr=>∃ xs:List (Fin es.size),Under es clock b W.heap.size xs wr∧J xs wr)
  (fun _ wr=>NC es.size W.heap.size wr)
 case atStart=>exact ⟨[],hU0,hJ0⟩
 case round=>
  obtain ⟨xs,hU,hJs⟩:=hrel
  gi_wp2_with (first
   | (gi_at_next;refine kS _ rfl _ rfl es clock b W.heap.size xs hst rfl hU (by omega) ?_ ?_)
   | gi_in)
  ·intro hall
   gi_wp2
   go_end0
   obtain ⟨seen,_,hs⟩:=hU.iter;exact ⟨⟨_,rfl⟩,.inl ⟨xs,I5 hs.nd hall,hJs⟩⟩
  ·intro x w2 hx hU2 hg2 hs2 hen;have hJ2:J xs w2:=hJ xs wr w2 (some W.heap.size) hJs hg2 (fun r e=>by cases e;exact ⟨Nat.le_refl _,hU.walk⟩);have hlt:=hU.lt hx;have hkx:es[x.1].key=lX (kv x):=hkv x;rw [hkx] at hen ⊢;unfold lX at hen ⊢;clear hs2;have hJ4:=hJ xs w2 (w2.alloc (.cells #[.string ⟨(kv x).1.toArray⟩,.string ⟨(kv x).2.1.toArray⟩,.bool (kv x).2.2] 247)) none hJ2 (World.grownBy_alloc w2 _ none) (fun r e=>by cases e);have hU4:=hU2.of_walks (KeepsWalks.alloc w2 (.cells #[.string ⟨(kv x).1.toArray⟩,.string ⟨(kv x).2.1.toArray⟩,.bool (kv x).2.2] 247));obtain ⟨fn,tmps,assign,body,hy,hR⟩:=hY xs x _ hJ4 hlt;simp only [lX,encStr] at hy
   gi_wp2
   refine hR.mono ?_;rintro e W3 (⟨rfl,hJ3,hk3⟩ | ⟨rfl,hx3⟩)
   ·gi_wp2
    have hU3:=hU4.of_walks hk3
    go_roundw
    case rel=>exact ⟨xs++[x],hU3,hJ3⟩
    case measure=>rw [hU3.uj,hU.uj];simp;omega
   ·gi_wp2
    (try simp only [Exit.inBlock,Exit.then])
    refine bodyPost_ret (results_none rfl _ _ _) rfl ?_;exact ⟨⟨_,rfl⟩,.inr ⟨_,trivial,hx3⟩⟩
theorem Tryz.Iw (F:Fence) (n:Nat) (hf:F.fn 324) (hro:F.round=none) (hn:1≤n) (p:Addr) (b:Nat) (es:Array MapEntry) (clock:Nat) (kv:Fin es.size→List UInt8×List UInt8×Bool) (hkv:∀ i:Fin es.size,es[i].key=lX (kv i))
  (hst:(∀ m∈es.toList,m.born<clock)∧(es.toList.map (·.born)).Nodup) (w:World) (hm:w.cell? p=some (.map (some b))) (hb:w.heap[b]?=some (.map es clock)) :
  SeqStopsK F n Tryz.prog 324 #[.pointer (some p)] (fun i:Fin es.size=>#[lX (kv i)]) KeepsWalks (fun xs=>xs.Perm (List.finRange es.size)) (fun _=>True) es.size w:=by
 intro l J Jx W hW hJ hJx hY h0;have hp:p.block<w.heap.size:=by
  unfold World.cell? at hm;cases ho:w.heap[p.block]? with
  | none=>simp [ho] at hm
  | some o=>exact (Array.getElem?_eq_some_iff.1 ho).1
 exact Tryz.aeO F n hf hro hn l p b es clock kv hkv hst J Jx hY W hJ ((hW.cell hp).trans hm) ((hW.block b (Array.getElem?_eq_some_iff.1 hb).1).trans hb) h0
end Go.Proofs
namespace Go.Proofs
open Go.RowKit Go.Sort Go.Keys Go.Shelf
attribute [local go_sem] Oper.semAt_some
def cellsE (e:List UInt8×List UInt8×Bool):List Value:=[encStr e.1,encStr e.2.1,.bool e.2.2]
def ZP (W:World) (B:Nat) (e:List UInt8×List UInt8×Bool):Prop:=W.heap[B]?=some (.cells (cellsE e).toArray 247 (0,0))
theorem Wy (B:Nat) (e:List UInt8×List UInt8×Bool) (p:Prop):Own (fun (_:Unit) W=>ZP W B e∧p):=fun s X Y row hs hg hrow=>
 ⟨(hg.block B (Array.getElem?_eq_some_iff.1 hs.1).1 (fun e'=>by obtain ⟨o,ho,hc⟩:=hrow B e'.symm;rw [show X.heap[B]?=_ from hs.1] at ho;cases ho;cases hc)).trans hs.1,hs.2⟩
theorem ZP.cells {W:World} {B:Nat} {e:List UInt8×List UInt8×Bool} (h:ZP W B e):W.cell? ⟨B,0,none⟩=some (encStr e.1)∧W.cell? ⟨B,1,none⟩=some (encStr e.2.1)∧W.cell? ⟨B,2,none⟩=some (.bool e.2.2):=by
 have h:W.heap[B]?=some (.cells #[encStr e.1,encStr e.2.1,.bool e.2.2] 247 (0,0)):=h;simp [World.cell?,h]
theorem nT (e:List UInt8×List UInt8×Bool):∀ u∈cellsE e,u.oneCell'=true:=by
 intro u hu;simp [cellsE] at hu;rcases hu with rfl | rfl | rfl<;>rfl
theorem cell_of_row {W:World} {b:Nat} {c:Array Value} {t:TypeId} {fz:Nat×Nat} (h:W.heap[b]?=some (.cells c t fz)) (j:Nat):W.cell? ((⟨b,0,none⟩:Addr).add j)=c[j]?:=by
 by_cases h0:j=0
 ·subst h0;simp [World.cell?,Addr.add,h]
 ·simp [World.cell?,Addr.add,h,h0]
theorem Ak (w:World) (e:List UInt8×List UInt8×Bool) (t:TypeId):∀ j u,(cellsE e)[j]?=some u→(w.alloc (.cells (cellsE e).toArray t)).cell? ((⟨w.heap.size,0,none⟩:Addr).add j)=some u:=by
 intro j u hj;rw [cell_of_row (World.alloc_heap_new w _)];simpa using hj
theorem Tryz.infoE:(Tryz.prog.info? 247).map (fun i=>(i.zero,i.size,i.bytes))=some (some (lX ([],[],false)),3,40):=by kernel_rfl
set_option maxRecDepth 100000 in
set_option maxHeartbeats 2000000 in
theorem Tryz.Lc (F:Fence) (n:Nat) (hf:F.fn 350) (hfk:F.fn 324) (hro:F.round=none) (hn:2≤n) (p:Addr) (b:Nat) (es:Array MapEntry) (clock:Nat) (kv:Fin es.size→List UInt8×List UInt8×Bool) (hkv:∀ i:Fin es.size,es[i].key=lX (kv i))
  (hst:(∀ m∈es.toList,m.born<clock)∧(es.toList.map (·.born)).Nodup) (hN:es.size≤maxLen) (hNb:es.size*40≤140737488355328) (w:World) (hm:w.cell? p=some (.map (some b))) (hb:w.heap[b]?=some (.map es clock)) :
  CallsIn F n Tryz.prog 350 #[.slice none 0 0,.func (.func 324) #[] #[.pointer (some p)]] w fun e w'=>
   ∃ (v:Value) (xs:List (Fin es.size)),e = .returned v∧xs.Perm (List.finRange es.size)∧w'.ownsRow w.heap.size 247 3 v xs.length ((xs.map kv).flatMap cellsE)∧Below w.heap.size w w':=by
 have h1:1≤n:=by omega
 have hpl:p.block<w.heap.size:=by
  unfold World.cell? at hm;cases ho:w.heap[p.block]? with
  | none=>simp [ho] at hm
  | some o=>exact (Array.getElem?_eq_some_iff.1 ho).1
 have hbl:b<w.heap.size:=(Array.getElem?_eq_some_iff.1 hb).1;refine callsIn_of_wp_marks Tryz.func350 rfl hf ?_ hro;simp only [Tryz.ntmps350,List.size_toArray,List.length_cons,List.length_nil,Nat.reduceAdd,Nat.reduceSub,Array.replicate_succ,Array.replicate_zero,List.push_toArray,List.append_toArray,List.nil_append,List.cons_append]
 gi_wp2
 obtain ⟨W0,hW0⟩:∃ W0,w.alloc (.cells #[.slice none 0 0] 241)=W0:=⟨_,rfl⟩
 have hs0:W0.heap.size=w.heap.size+1:=by rw [← hW0];simp
 have hv0:Boxed W0 w.heap.size 241 (.slice none 0 0):=by rw [← hW0];exact Boxed.new w _ _
 have hb0:Below w.heap.size w W0:=by rw [← hW0];exact (Below.refl _ w).alloc (Nat.le_refl _) _
 have hne:(241:TypeId)≠247:=by decide
 obtain ⟨i0,hi,hz0,hz1,hz2⟩:=info_parts Tryz.infoE;rw [hW0];refine wpIn_rangeFunc_ownH hro h1 (gf:=324) (lb:=#[.pointer (some p)]) rfl hfk (enters_of Tryz.func324 (by kernel_rfl) rfl)
  (Tryz.Iw F (n-1) hfk hro (by omega) p b es clock kv hkv hst W0 ((hb0.cell hpl).trans hm) ((hb0.block b hbl).trans hb)) walksK_t walksK_b (Below.refl _ _) (fun _=>rfl)
  (fun pre W=>(∃ v,Boxed W w.heap.size 241 v∧W.ownsRow w.heap.size 247 3 v pre.length ((pre.map kv).flatMap cellsE)∧True)∧Below w.heap.size w W) (fun _ _ _=>False)
  (OwnFrom.and (Own.from (holdsRow_own w.heap.size w.heap.size 241 247 3 (fun pre:List (Fin es.size)=>pre.length) (fun pre=>(pre.map kv).flatMap cellsE) (fun _ _=>True)) _) (ownFrom_below (Nat.le_refl _) (by omega)))
  (fun _ _ _ _ _ h _ _=>h.elim) ⟨⟨_,hv0,⟨rfl,.inl ⟨rfl,rfl⟩⟩,trivial⟩,hb0⟩
  (fun x a' W=>∃ Bx,ZP W Bx (kv x)∧(Bx≠w.heap.size∧a'={ tmps:=#[.slice none 0 0,.func (.func 324) #[] #[.pointer (some p)],
     .pointer (some { block:=w.heap.size,off:=0 }),undef,.slice none 0 0,.pointer (some ⟨Bx,0,none⟩),.func (.func 324) #[] #[.pointer (some p)],lX (kv x),undef,undef,undef,undef,undef],defers:=[] }))
  (fun x a' _ A B row hs hg hr=>by obtain ⟨Bx,h1,h2⟩:=hs;obtain ⟨h1,h2⟩:=(Wy Bx (kv x) _).from _ () A B row ⟨h1,h2⟩ hg hr;exact ⟨Bx,h1,h2⟩) ?assign ?body ?done ?stop
 case assign=>
  rintro l pre x W K ⟨⟨v,hv,hr,_⟩,hB⟩ hK;simp only [lX]
  gi_wp2
  exact hK _ _ ((KeepsOthers.alloc W _).from _) (KeepsWalks.alloc W _) ⟨⟨v,hv.alloc _,hr.alloc _,trivial⟩,hB.trans ((Below.refl _ W).alloc hB.size _)⟩ ⟨W.heap.size,World.alloc_heap_new W _,by have:=hv.lt;omega,rfl⟩
 case body=>
  rintro l pre x a' W hl ⟨r,hr⟩ ⟨⟨v,hv,hrow,_⟩,hB⟩ ⟨Bx,hx,hBx,rfl⟩ hlt;have hc:=hv.cell;obtain ⟨hx0,hx1,hx2⟩:=hx.cells
  gi_wp2_with (first
   | (gi_at_builtin;refine wpListIn_append_own _ rfl _ _ 241 rfl w.heap.size 247 i0 (lX ([],[],false)) 3 40 Tryz.underlying241 hi hz0 hz1 hz2 rfl (by decide) _ _ _ rfl (hrow.alloc _) ⟨W.heap.size,0,none⟩ 1 1 (cellsE (kv x)) rfl rfl (Ak _ _ _) (nT _) (by omega) (by omega) (by have:=hB.size;simp;omega) ?_;intro v' w1 hown' hgrow _;obtain ⟨g',cap',rfl⟩:=ownsRow_succ hown';obtain ⟨hv1,hv2,hr2,hk2,hb2⟩:=hv.appended hne hrow hB.size (Nat.le_refl _) hown' hgrow;have hc1:=hv1.cell;have hf1:=hv1.frozen)
   | gi_in)
  exact ⟨hk2.from _,hk2.walks,⟨⟨_,hv2,by simpa using hr2,trivial⟩,hB.trans hb2⟩⟩
 case done=>
  rintro D xs W hD hS ⟨⟨v,hv,hrow,_⟩,hB⟩ hK;have hc:=hv.cell
  gi_wp2
  refine ⟨by simp,.inl ⟨_,_,rfl,run_takeDeferred hK,?_⟩⟩;refine ⟨_,results_tmp rfl _ _ _,v,xs,rfl,hS,ownsRow_putObj hrow _ hK rfl,hB.trans (belowK_b (w:=w) (Nat.le_refl _) W D _ _ (by omega) hK rfl rfl)⟩
 case stop=>
  rintro D c pre W hD _ h _;exact h.elim
end Go.Proofs
namespace Go.Proofs
open Go.RowKit Go.Sort Go.Keys Go.Shelf
def Tryz.sortE_ren:Go.Shelf.Ren:=⟨fun | 6=>323 | 15=>232 | 14=>351 | 28=>306 | 29=>307 | 20=>368 | 21=>369 | 22=>370 | 23=>371 | 24=>372 | 25=>373 | 26=>374 | 27=>375 | 46=>387 | 47=>344 | 48=>345 | 49=>388 | 50=>389 | 57=>401 | n=>n,fun | 22=>241 | 24=>247 | 25=>304 | 3=>3 | 39=>149 | 0=>0 | 53=>335 | 55=>337 | 4=>4 | 46=>329 | 45=>328 | 50=>92 | 5=>5 | 9=>9 | 66=>366 | 70=>370 | 76=>387 | 77=>388 | n=>n,fun | n=>n⟩
theorem Tryz.sortE:Go.Proofs.SlLaysF0.n6 Tryz.prog Tryz.sortE_ren:={
 mixed:=by kernel_rfl
 f6:=⟨Tryz.f323.name,by decide,Tryz.func323.trans (congrArg some (by kernel_rfl))⟩
 f14:=⟨Tryz.f351.name,by decide,Tryz.func351.trans (congrArg some (by kernel_rfl))⟩
 f15:=Tryz.func232.trans (congrArg some (by kernel_rfl))
 f20:=⟨Tryz.f368.name,by decide,Tryz.func368.trans (congrArg some (by kernel_rfl))⟩
 f21:=⟨Tryz.f369.name,by decide,Tryz.func369.trans (congrArg some (by kernel_rfl))⟩
 f22:=⟨Tryz.f370.name,by decide,Tryz.func370.trans (congrArg some (by kernel_rfl))⟩
 f23:=⟨Tryz.f371.name,by decide,Tryz.func371.trans (congrArg some (by kernel_rfl))⟩
 f24:=⟨Tryz.f372.name,by decide,Tryz.func372.trans (congrArg some (by kernel_rfl))⟩
 f25:=⟨Tryz.f373.name,by decide,Tryz.func373.trans (congrArg some (by kernel_rfl))⟩
 f26:=⟨Tryz.f374.name,by decide,Tryz.func374.trans (congrArg some (by kernel_rfl))⟩
 f27:=⟨Tryz.f375.name,by decide,Tryz.func375.trans (congrArg some (by kernel_rfl))⟩
 f28:=Tryz.func306.trans (congrArg some (by kernel_rfl))
 f29:=Tryz.func307.trans (congrArg some (by kernel_rfl))
 f46:=⟨Tryz.f387.name,by decide,Tryz.func387.trans (congrArg some (by kernel_rfl))⟩
 f47:=Tryz.func344.trans (congrArg some (by kernel_rfl))
 f48:=Tryz.func345.trans (congrArg some (by kernel_rfl))
 f49:=⟨Tryz.f388.name,by decide,Tryz.func388.trans (congrArg some (by kernel_rfl))⟩
 f50:=⟨Tryz.f389.name,by decide,Tryz.func389.trans (congrArg some (by kernel_rfl))⟩
 f57:=⟨Tryz.f401.name,by decide,Tryz.func401.trans (congrArg some (by kernel_rfl))⟩
 t0:=Tryz.underlying0
 a0:=Tryz.isAgg0
 z0:=Tryz.sizeOf0
 v0:=Tryz.zeroValue0
 t3:=Tryz.underlying3
 a3:=Tryz.isAgg3
 z3:=Tryz.sizeOf3
 v3:=Tryz.zeroValue3
 t4:=Tryz.underlying4
 a4:=Tryz.isAgg4
 z4:=Tryz.sizeOf4
 v4:=Tryz.zeroValue4
 t5:=Tryz.underlying5
 a5:=Tryz.isAgg5
 z5:=Tryz.sizeOf5
 v5:=Tryz.zeroValue5
 t9:=Tryz.underlying9
 a9:=Tryz.isAgg9
 z9:=Tryz.sizeOf9
 v9:=Tryz.zeroValue9
 t22:=Tryz.underlying241
 a22:=Tryz.isAgg241
 z22:=Tryz.sizeOf241
 v22:=Tryz.zeroValue241
 t25:=Tryz.underlying304
 a25:=Tryz.isAgg304
 z25:=Tryz.sizeOf304
 v25:=Tryz.zeroValue304
 t39:=Tryz.underlying149
 a39:=Tryz.isAgg149
 z39:=Tryz.sizeOf149
 v39:=Tryz.zeroValue149
 t45:=Tryz.underlying328
 a45:=Tryz.isAgg328
 z45:=Tryz.sizeOf328
 v45:=Tryz.zeroValue328
 t46:=Tryz.underlying329
 a46:=Tryz.isAgg329
 z46:=Tryz.sizeOf329
 v46:=Tryz.zeroValue329
 t50:=Tryz.underlying92
 a50:=Tryz.isAgg92
 z50:=Tryz.sizeOf92
 v50:=Tryz.zeroValue92
 t53:=Tryz.underlying335
 a53:=Tryz.isAgg335
 z53:=Tryz.sizeOf335
 v53:=Tryz.zeroValue335
 t55:=Tryz.underlying337
 a55:=Tryz.isAgg337
 z55:=Tryz.sizeOf337
 v55:=Tryz.zeroValue337
 t66:=Tryz.underlying366
 a66:=Tryz.isAgg366
 z66:=Tryz.sizeOf366
 v66:=Tryz.zeroValue366
 t70:=Tryz.underlying370
 a70:=Tryz.isAgg370
 z70:=Tryz.sizeOf370
 v70:=Tryz.zeroValue370
 t76:=Tryz.underlying387
 a76:=Tryz.isAgg387
 z76:=Tryz.sizeOf387
 v76:=Tryz.zeroValue387
 t77:=Tryz.underlying388
 a77:=Tryz.isAgg388
 z77:=Tryz.sizeOf388
 v77:=Tryz.zeroValue388 }
def Tryz.bitsLenE_ren:Go.Shelf.Ren:=⟨fun | 125=>232 | 128=>306 | 129=>307 | n=>n,fun | 46=>149 | 3=>3 | 51=>335 | 53=>337 | 4=>4 | 5=>5 | 9=>9 | n=>n,fun | n=>n⟩
theorem Tryz.bitsLenE:Go.Proofs.Lays.n125 Tryz.prog Tryz.bitsLenE_ren:={
 mixed:=by kernel_rfl
 f125:=Tryz.func232.trans (congrArg some (by kernel_rfl))
 f128:=Tryz.func306.trans (congrArg some (by kernel_rfl))
 f129:=Tryz.func307.trans (congrArg some (by kernel_rfl))
 t3:=Tryz.underlying3
 a3:=Tryz.isAgg3
 z3:=Tryz.sizeOf3
 v3:=Tryz.zeroValue3
 t4:=Tryz.underlying4
 a4:=Tryz.isAgg4
 z4:=Tryz.sizeOf4
 v4:=Tryz.zeroValue4
 t5:=Tryz.underlying5
 a5:=Tryz.isAgg5
 z5:=Tryz.sizeOf5
 v5:=Tryz.zeroValue5
 t9:=Tryz.underlying9
 a9:=Tryz.isAgg9
 z9:=Tryz.sizeOf9
 v9:=Tryz.zeroValue9
 t46:=Tryz.underlying149
 a46:=Tryz.isAgg149
 z46:=Tryz.sizeOf149
 v46:=Tryz.zeroValue149
 t51:=Tryz.underlying335
 a51:=Tryz.isAgg335
 z51:=Tryz.sizeOf335
 v51:=Tryz.zeroValue335
 t53:=Tryz.underlying337
 a53:=Tryz.isAgg337
 z53:=Tryz.sizeOf337
 v53:=Tryz.zeroValue337 }
theorem Tryz.hlenE (n:Nat) (W:World) (h:n≤12):Calls Tryz.prog 232 #[.int .u64 n] W fun e w'=>(∃ l:Int,e = .returned (.int .i64 l))∧w'=W:=
 (Any.bits_Len Tryz.bitsLenE n W (by omega) (by omega)).mono fun _ _ ⟨he,hw⟩=>⟨⟨_,he⟩,hw⟩
abbrev ou:=List UInt8×List UInt8×Bool
theorem flat3 (l:List ou):∀ (i c:Nat) (e:ou),l[i]?=some e→c<3→(l.flatMap cellsE)[i*3+c]?=(cellsE e)[c]?:=by
 induction l with
 | nil=>intro i c e h;simp at h
 | cons x l ih=>
   intro i c e h hc;rw [List.flatMap_cons];cases i with
   | zero=>
     simp at h;subst h;rw [List.getElem?_append_left (by simp [cellsE];omega)];simp
   | succ i=>
     rw [List.getElem?_append_right (by simp [cellsE];omega)];have:=ih i c e (by simpa using h) hc
     simpa [cellsE,show (i+1)*3+c-3=i*3+c by omega] using this
theorem Fj (l:List ou):(l.flatMap cellsE).length=l.length*3:=by
 induction l with
 | nil=>rfl
 | cons x l ih=>rw [List.flatMap_cons,List.length_append,ih];simp [cellsE];omega
theorem I4 {α:Type} [Inhabited α] (f:α→ou) (d:Array α):(flatK (fun i=>cellsE (f i)) 3 d).toList=(d.toList.map f).flatMap cellsE:=by
 apply List.ext_getElem?;intro t;by_cases ht:t<d.size*3
 ·have h1:t / 3<d.size:=by omega
  have h2:(d.toList.map f)[t / 3]?=some (f d[t / 3]!):=by simp [h1]
  have h3:=flat3 (d.toList.map f) (t / 3) (t % 3) _ h2 (by omega);rw [show t / 3*3+t % 3=t by omega] at h3;rw [h3];have h4:=get_flatK (fun i=>cellsE (f i)) 3 d t ht;have h5:(flatK (fun i=>cellsE (f i)) 3 d).toList[t]?=some ((cellsE (f d[t / 3]!))[t % 3]!):=by
   rw [← h4];simp [ht]
  rw [h5];have:t % 3<(cellsE (f d[t / 3]!)).length:=by simp [cellsE];omega
  simp [this]
 ·rw [List.getElem?_eq_none (by simp;omega),List.getElem?_eq_none (by rw [Fj];simp;omega)]
theorem yZ {α β:Type} (f:α→β):∀ {l l':List β},l.Perm l'→∀ m:List α,l'=m.map f→∃ m':List α,m'.Perm m∧l=m'.map f:=by
 intro l l' h
 induction h with
 | nil=>intro m hm;exact ⟨[],by rw [List.map_eq_nil_iff.1 hm.symm],rfl⟩
 | cons x h ih=>
   intro m hm;obtain ⟨a,m1,rfl,h1,h2⟩:=List.map_eq_cons_iff.1 hm.symm;obtain ⟨m',h3,rfl⟩:=ih m1 h2.symm;exact ⟨a::m',h3.cons a,by simp [h1]⟩
 | swap x y l=>
   intro m hm;obtain ⟨a,m1,rfl,h1,h2⟩:=List.map_eq_cons_iff.1 hm.symm;obtain ⟨b,m2,rfl,h3,h4⟩:=List.map_eq_cons_iff.1 h2;exact ⟨b::a::m2,.swap a b m2,by simp [h1,h3,h4]⟩
 | trans h1 h2 ih1 ih2=>
   intro m hm;obtain ⟨m1,h3,h4⟩:=ih2 m hm;obtain ⟨m2,h5,h6⟩:=ih1 m1 h4;exact ⟨m2,h5.trans h3,h6⟩
theorem mG {α:Type} (L:List α):(List.finRange L.length).map L.get=L:=by
 apply List.ext_getElem (by simp);intro i h1 h2;simp
theorem KF {w:World} {g:Nat} {cur F:Array Value} {e:TypeId} (hb:w.heap[g]?=some (.cells cur e (0,0))) (ht:cur.toList.take F.size=F.toList):Holds id w g 0 F:=by
 intro j hj;refine ⟨?_,by simp [World.frozen?,hb]⟩;have h1:(cur.toList.take F.size)[j]?=F.toList[j]?:=by rw [ht]
 rw [List.getElem?_take_of_lt hj] at h1;simp only [World.cell?,hb,Nat.zero_add];simp only [Option.isSome_none,Bool.false_eq_true,if_false];rw [← Array.getElem?_toList,h1];simp [hj]
theorem Qx {w:World} {g n:Nat} {os:Array Obj} {cur:Array Value} {e:TypeId} {fr:Nat×Nat} (d:Array Value) (hb:w.heap[g]?=some (.cells cur e fr)) :
  (grow (putRow id (Sort.ahead w n) g 0 d) os).heap[g]?=some (.cells (putCells id 0 d cur) e fr):=by
 have hg:g<w.heap.size:=(Array.getElem?_eq_some_iff.1 hb).1;rw [heap_grow_old _ _ (by simpa using hg)];simp [putRow,mapBlock,Sort.ahead,Array.getElem?_modify,hb,onCells]
theorem uy {w:World} {g n:Nat} {os:Array Obj} (d:Array Value):w.grownBy (grow (putRow id (Sort.ahead w n) g 0 d) os) (some g):=by
 refine ⟨rfl,rfl,rfl,by simp,fun k hk hne=>?_⟩;rw [heap_grow_old _ _ (by simpa using hk)];have:g≠k:=fun e=>hne (by rw [e])
 simp [putRow,mapBlock,Sort.ahead,Array.getElem?_modify,this]
theorem PO (cur F:Array Value) (h:F.size≤cur.size):(putCells id 0 F cur).toList.take F.size=F.toList:=by
 apply List.ext_getElem?;intro j;by_cases hj:j<F.size
 ·rw [List.getElem?_take_of_lt hj,Array.getElem?_toList];simp [putCells,hj,show j<cur.size by omega]
 ·rw [List.getElem?_take_eq_none (by omega),List.getElem?_eq_none (by simp;omega)]
theorem EF {w:World} {base g cap n k:Nat} {e:TypeId} {os:Array Obj} {cur F:Array Value} (hl:F.size=k*3) (hbase:base≤g) (hb:w.heap[g]?=some (.cells cur e (0,0)))
  (h1:k≤cap) (h2:cap≤maxLen) (h3:cur.size=cap*3) :
  (grow (putRow id (Sort.ahead w n) g 0 F) os).ownsRow base e 3 (.slice (some ⟨g,0,none⟩) k cap) k F.toList:=
 ⟨by simp [hl],.inr ⟨g,cap,_,rfl,hbase,Qx _ hb,h1,h2,by simp [putCells,h3],by rw [← hl];exact PO cur F (by omega)⟩⟩
set_option maxRecDepth 100000 in
set_option maxHeartbeats 1000000 in
theorem Tryz.Wi (F:Fence) (n:Nat) (hc:F.fn 322) (hf:F.fn 350) (hfk:F.fn 324) (hro:F.round=none) (hn:3≤n) (p:Addr) (b:Nat) (es:Array MapEntry) (clock:Nat) (kv:Fin es.size→ou) (hkv:∀ i:Fin es.size,es[i].key=lX (kv i))
  (hst:(∀ m∈es.toList,m.born<clock)∧(es.toList.map (·.born)).Nodup) (hN:es.size≤maxLen) (hNb:es.size*40≤140737488355328) (w:World) (hm:w.cell? p=some (.map (some b))) (hb:w.heap[b]?=some (.map es clock)) :
  CallsIn F n Tryz.prog 322 #[.func (.func 324) #[] #[.pointer (some p)]] w fun e w'=>
   ∃ (v:Value) (xs:List (Fin es.size)),e = .returned v∧xs.Perm (List.finRange es.size)∧w'.ownsRow w.heap.size 247 3 v xs.length ((xs.map kv).flatMap cellsE)∧Below w.heap.size w w':=by
 have h1:1≤n:=by omega
 have cA:=Tryz.Lc F (n-1) hf hfk hro (by omega) p b es clock kv hkv hst hN hNb w hm hb;refine callsIn_of_wp Tryz.func322 rfl hc ?_ hro;simp only [Tryz.ntmps322,List.size_toArray,List.length_cons,List.length_nil,Nat.reduceAdd,Nat.reduceSub,Array.replicate_succ,Array.replicate_zero,List.push_toArray,List.append_toArray,List.nil_append,List.cons_append]
 gi_wp2_with (gi_at_call 350;refine cA.mono ?_;rintro e w' ⟨v,xs,rfl,hS,hrow,hB⟩)
 go_ret
 exact ⟨v,xs,rfl,hS,hrow,hB⟩
set_option maxRecDepth 100000 in
set_option maxHeartbeats 1000000 in
theorem Tryz.GR (p:Addr) (b:Nat) (es:Array MapEntry) (clock:Nat) (kv:Fin es.size→ou) (hkv:∀ i:Fin es.size,es[i].key=lX (kv i))
  (hst:(∀ m∈es.toList,m.born<clock)∧(es.toList.map (·.born)).Nodup) (w:World) (hm:w.cell? p=some (.map (some b))) (hb:w.heap[b]?=some (.map es clock))
  (L:List ou) (hL:((List.finRange es.size).map kv).Perm L) (h0:0<L.length) (h12:L.length≤12) (g:Nat) (eg:∀ args w,(callFunc g args).run Tryz.prog w = .ok (.enter g args) w) (cf:Fin L.length→Fin L.length→Int) (hcf:∀ i j,cf i j<0↔i<j)
  (hcmp:∀ W,Below w.heap.size w W→∀ i j:Fin L.length,Calls Tryz.prog g #[lX (L.get i),lX (L.get j)] W fun e W'=>e = .returned (.int .i64 (cf i j))∧∃ q os',W'=grow (W.drewN q) os') :
  Calls Tryz.prog 264 #[.func (.func 324) #[] #[.pointer (some p)],.func (.func g) #[] #[]] w fun e w'=>
   ∃ v,e = .returned v∧w'.ownsRow w.heap.size 247 3 v L.length (L.flatMap cellsE)∧Below w.heap.size w w':=by
 have hsz:es.size=L.length:=by have:=hL.length_eq;simpa using this
 have cC:=callsIn_wide.1 (Tryz.Wi Fence.wide 3 trivial trivial trivial rfl (by omega) p b es clock kv hkv hst (by rw [hsz];exact Nat.le_trans h12 (by decide)) (by omega) w hm hb)
 haveI:Inhabited (Fin L.length):=⟨⟨0,h0⟩⟩
 have e163:=enters_of Tryz.func323 (by kernel_rfl) rfl;have hswo:SWO (ltOf cf):=by
  have e:∀ x y,ltOf cf x y=decide (x<y):=fun x y=>by
   unfold ltOf;by_cases h:x<y
   ·simp [h,(hcf x y).2 h]
   ·simp [h,mt (hcf x y).1 h]
  exact ⟨fun x=>by simp [e],fun x y z h1 h2=>by rw [e,decide_eq_true_eq] at *;omega,fun x y z h1 h2=>by rw [e,decide_eq_false_iff_not] at *;omega⟩
 go_enter Tryz.func264,Tryz.ntmps264
 go_wp2_with (go_at_call 322;refine cC.mono ?_;rintro e W ⟨v,xs,rfl,hS,hrow,hB⟩)
 have hxl:xs.length=L.length:=by rw [hS.length_eq];simpa using hsz
 obtain ⟨ys,hys,hyx⟩:∃ ys:List (Fin L.length),ys.Perm (List.finRange L.length)∧xs.map kv=ys.map L.get:=yZ L.get ((hS.map kv).trans hL) (List.finRange L.length) (mG L).symm
 have hyl:ys.length=L.length:=by rw [hys.length_eq];simp
 have hys':ys.toArray.size=xs.length:=by simp [hyl,hxl]
 rcases hrow.2 with ⟨_,h⟩ | ⟨gb,cap,cur,rfl,hbase,hgb,r1,r2,r3,r4⟩
 ·omega
 have hgl:gb<W.heap.size:=(Array.getElem?_eq_some_iff.1 hgb).1;have hH:HoldsK (fun i=>cellsE (L.get i)) 3 W gb 0 ys.toArray:=KF hgb (by rw [I4,size_flatK,hys',r4,hyx]);have cS:=AnyQ.slices_SortFunc_small_sorted Tryz.sortE 3 Tryz.isAgg247 Tryz.sizeOf247 (fun i=>cellsE (L.get i)) (fun _=>rfl) (fun x=>nT _) cf g #[] hswo gb 0 cap ys.toArray W eg
  (fun m os dk hd x y=>hcmp _ (hB.grown (uy _) hB.size (fun k e=>by cases e;exact hbase)) x y) hH hgl (by rw [hys',hxl];exact h12) Tryz.hlenE
 rw [hys'] at cS;change Calls Tryz.prog 323 _ _ _ at cS;clear hcmp
 go_wp2_with (go_at_call 323;refine cS.mono ?_;rintro e W' ⟨rfl,d',m,os,hp,hs,rfl⟩)
 go_ret
 have hd:d'=(List.finRange L.length).toArray:=by
  obtain ⟨p1,_,p3⟩:=hp;have q1:d'.size=xs.length:=by rw [p1,hys']
  rw [show d'.extract 0 xs.length=d' by rw [← q1];exact Array.extract_size,show ys.toArray.extract 0 xs.length=ys.toArray by rw [← hys'];exact Array.extract_size] at p3;have p4:d'.toList.Perm (List.finRange L.length):=p3.trans (by simpa using hys);apply Array.toList_inj.1;rw [List.toList_toArray];refine List.Perm.eq_of_pairwise (le:=fun x y:Fin L.length=>x≤y) (fun a b _ _ h1 h2=>Fin.le_antisymm h1 h2) ?_ ?_ p4
  ·rw [List.pairwise_iff_getElem];intro i j hi hj hij;have hj':j<d'.size:=(by simpa using hj);have hi':i<d'.size:=(by omega);have:=hs i j (Nat.zero_le _) hij (by omega);unfold ltOf at this;rw [decide_eq_false_iff_not,hcf,getElem!_pos d' j hj',getElem!_pos d' i hi'] at this
   simpa using Fin.not_lt.1 this
  ·rw [List.pairwise_iff_getElem];intro i j hi hj hij;simp [Fin.le_def];omega
 subst hd;have hfl:(flatK (fun i=>cellsE (L.get i)) 3 (List.finRange L.length).toArray).toList=L.flatMap cellsE:=by
  rw [I4,List.toList_toArray,mG]
 refine ⟨_,rfl,?_,hB.grown (uy _) hB.size (fun k e=>by cases e;exact hbase)⟩;rw [← hfl];exact EF (by simp) hbase hgb (by omega) r2 r3
end Go.Proofs
