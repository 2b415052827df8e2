/- The order of edges: a strict one, and total; edges sorted by it. -/
import Derived.Test.YtdonenoiehdahaaGreatGrOAnd
import Derived.Test.YtdonenoiehdahaaGreatKeysRAnd
import Derived.Shelf.SlSortCmp.WholeK
import Derived.Shelf.SlSortCmp.NoneTotal
import Derived.Deep.Matrix
import Derived.Deep.Strs
set_option linter.all false
namespace Go.Proofs
open Go.RowKit Go.Sort Go.Keys Go.Shelf
theorem J9 (a b:List UInt8):a<b∨a=b∨b<a:=by
 by_cases h:b<a
 ·exact .inr (.inr h)
 ·rcases List.le_iff_lt_or_eq.1 (List.not_lt.1 h) with h | h
  ·exact .inl h
  ·exact .inr (.inl h)
theorem Uh (a b:List UInt8):bC a b<0↔a<b:=by
 unfold bC;by_cases h:a<b
 ·simp [h]
 ·rw [if_neg h];by_cases h':b<a<;>simp [h,h']
theorem DF (a b:List UInt8):bC a b=0↔a=b:=by
 unfold bC;by_cases h:a<b
 ·rw [if_pos h];exact ⟨fun e=>(by cases e),fun e=>by rw [e] at h;exact absurd h (List.lt_irrefl _)⟩
 ·rw [if_neg h];by_cases h':b<a
  ·rw [if_pos h'];exact ⟨fun e=>(by cases e),fun e=>by rw [e] at h';exact absurd h' (List.lt_irrefl _)⟩
  ·rw [if_neg h'];exact ⟨fun _=>by rcases J9 a b with h1 | h1 | h1;exact absurd h1 h;exact h1;exact absurd h1 h',fun _=>rfl⟩
def vM (x y:mO):Prop:=x.1<y.1∨x.1=y.1∧(x.2.1<y.2.1∨x.2.1=y.2.1∧x.2.2=false∧y.2.2=true)
theorem Yr (x y:mO):lZ x y<0↔vM x y:=by
 obtain ⟨a,b,c⟩:=x;obtain ⟨a',b',c'⟩:=y;unfold lZ vM;simp only;by_cases h:a=a'
 ·have h0:=(DF a a').2 h;rw [if_neg (by simp [h0])];by_cases h2:b=b'
  ·have h3:=(DF b b').2 h2;rw [if_neg (by simp [h3])];cases c<;>cases c'<;>simp [h,h2,List.lt_irrefl]
  ·rw [if_pos (by rw [ne_eq,DF];exact h2),Uh];simp [h,h2,List.lt_irrefl]
 ·rw [if_pos (by rw [ne_eq,DF];exact h),Uh];simp [h]
theorem NQ (x:mO):¬ vM x x:=by
 unfold vM;rintro (h | ⟨_,h | ⟨_,h,h'⟩⟩)
 ·exact List.lt_irrefl _ h
 ·exact List.lt_irrefl _ h
 ·rw [h] at h';cases h'
theorem EZ (x y:mO):vM x y∨x=y∨vM y x:=by
 obtain ⟨a,b,c⟩:=x;obtain ⟨a',b',c'⟩:=y;unfold vM;simp only;rcases J9 a a' with h | h | h
 ·exact .inl (.inl h)
 ·subst h;rcases J9 b b' with h | h | h
  ·exact .inl (.inr ⟨rfl,.inl h⟩)
  ·subst h;cases c<;>cases c'
   ·exact .inr (.inl rfl)
   ·exact .inl (.inr ⟨rfl,.inr ⟨rfl,rfl,rfl⟩⟩)
   ·exact .inr (.inr (.inr ⟨rfl,.inr ⟨rfl,rfl,rfl⟩⟩))
   ·exact .inr (.inl rfl)
  ·exact .inr (.inr (.inr ⟨rfl,.inl h⟩))
 ·exact .inr (.inr (.inl h))
theorem xw {x y z:mO} (h1:vM x y) (h2:vM y z):vM x z:=by
 obtain ⟨a,b,c⟩:=x;obtain ⟨a',b',c'⟩:=y;obtain ⟨a2,b2,c2⟩:=z;unfold vM at *;simp only at *;rcases h1 with h1 | ⟨rfl,h1⟩
 ·rcases h2 with h2 | ⟨rfl,_⟩
  ·exact .inl (List.lt_trans h1 h2)
  ·exact .inl h1
 ·rcases h2 with h2 | ⟨rfl,h2⟩
  ·exact .inl h2
  ·refine .inr ⟨rfl,?_⟩;rcases h1 with h1 | ⟨rfl,h1,h1'⟩
   ·rcases h2 with h2 | ⟨rfl,_⟩
    ·exact .inl (List.lt_trans h1 h2)
    ·exact .inl h1
   ·rcases h2 with h2 | ⟨rfl,h2,h2'⟩
    ·exact .inl h2
    ·rw [h1'] at h2;cases h2
theorem kC (x y:mO):ltOf lZ x y=true↔vM x y:=by unfold ltOf;rw [decide_eq_true_eq,Yr]
theorem aat:SWO (ltOf lZ) where
 irrefl x:=by
  cases h:ltOf lZ x x with
  | false=>rfl
  | true=>exact absurd ((kC x x).1 h) (NQ x)
 trans x y z h1 h2:=(kC x z).2 (xw ((kC x y).1 h1) ((kC y z).1 h2))
 ntrans x y z h1 h2:=by
  cases h:ltOf lZ x z with
  | false=>rfl
  | true=>
    have h':=(kC x z).1 h;have n1:¬ vM x y:=fun e=>by rw [(kC x y).2 e] at h1;cases h1
    have n2:¬ vM y z:=fun e=>by rw [(kC y z).2 e] at h2;cases h2
    rcases EZ x y with e | e | e
    ·exact absurd e n1
    ·rw [e] at h';exact absurd h' n2
    ·exact absurd (xw e h') n2
def cO (l:List mO):List mO:=l.mergeSort fun x y=>!ltOf lZ y x
theorem fB (l:List mO):(cO l).Perm l:=List.mergeSort_perm _ _
theorem D5 {l l':List mO} (h:l.Perm l'):cO l=cO l':=by
 have srt:∀ l:List mO,(cO l).Pairwise fun x y=>¬ vM y x:=fun l=>by
  have:=List.pairwise_mergeSort (le:=fun x y:mO=>!ltOf lZ y x) (fun a b c h1 h2=>by
   simp only [Bool.not_eq_true'] at *;exact aat.ntrans _ _ _ h2 h1) (fun a b=>by
   cases h1:ltOf lZ b a with
   | false=>rfl
   | true=>
     cases h2:ltOf lZ a b with
     | false=>rfl
     | true=>exact absurd (xw ((kC b a).1 h1) ((kC a b).1 h2)) (NQ b)) l
  exact this.imp fun {x y} h e=>by rw [(kC y x).2 e] at h;cases h
 refine List.Perm.eq_of_pairwise (le:=fun x y=>¬ vM y x) (fun a b _ _ h1 h2=>?_) (srt l) (srt l') (((fB l).trans h).trans (fB l').symm);rcases EZ a b with e | e | e
 ·exact absurd e h2
 ·exact e
 ·exact absurd e h1
set_option maxRecDepth 100000 in
set_option maxHeartbeats 1000000 in
theorem Tryz.MS (p:Addr) (b:Nat) (es:Array MapEntry) (clock:Nat) (kv:Fin es.size→mO) (hkv:∀ i:Fin es.size,es[i].key=kE (kv i))
  (hst:(∀ m∈es.toList,m.born<clock)∧(es.toList.map (·.born)).Nodup) (w:World) (hm:w.cell? p=some (.map (some b))) (hb:w.heap[b]?=some (.map es clock)) (hN:es.size≤1000000000) :
  Calls Tryz.prog 152 #[.func (.func 163) #[] #[.pointer (some p)],.func (.func 154) #[] #[]] w fun e w'=>
   ∃ v,e = .returned v∧w'.ownsRow w.heap.size 153 3 v es.size ((cO ((List.finRange es.size).map kv)).flatMap cellsE)∧Below w.heap.size w w':=by
 have cC:=callsIn_wide.1 (Tryz.O5 Fence.wide 3 trivial trivial trivial rfl (by omega) p b es clock kv hkv hst (Nat.le_trans hN (by decide)) (by omega) w hm hb);have e163:=enters_of Tryz.func162 (by kernel_rfl) rfl
 go_enter Tryz.func152,Tryz.ntmps152
 go_wp2_with (go_at_call 161;refine cC.mono ?_;rintro e W ⟨v,xs,rfl,hS,hrow,hB⟩)
 have hxl:xs.length=es.size:=by rw [hS.length_eq];simp
 have hso:cO (xs.map kv)=cO ((List.finRange es.size).map kv):=D5 (hS.map kv);clear hS hst hkv cC;obtain ⟨D0,hD⟩:∃ D0,xs.map kv=D0:=⟨_,rfl⟩
 rw [hD] at hrow hso;have hDl:D0.length=xs.length:=by rw [← hD];simp
 rcases hrow.2 with ⟨rfl,h⟩ | ⟨gb,cap,cur,rfl,hbase,hgb,r1,r2,r3,r4⟩
 ·have cS:=AnyF.slices_SortFunc_none Tryz.sortE none 0 (.func (.func 154) #[] #[]) W;change Calls Tryz.prog 162 _ _ _ at cS
  go_wp2_with (go_at_call 162;refine cS.mono ?_;rintro e W' ⟨rfl,rfl⟩)
  go_ret
  obtain rfl:D0=[]:=List.length_eq_zero_iff.1 (by omega);rw [← hso,← hxl];exact ⟨_,rfl,⟨by rw [h];simp [cO],.inl ⟨rfl,h⟩⟩,hB⟩
 ·have hgl:gb<W.heap.size:=(Array.getElem?_eq_some_iff.1 hgb).1;have hsz:D0.toArray.size=xs.length:=by simp [hDl]
  have hH:HoldsK cellsE 3 W gb 0 D0.toArray:=Fh hgb (by
   have h1:=zo (fun e:nX=>e) D0.toArray
   rw [show (flatK cellsE 3 D0.toArray).toList=(D0.toArray.toList.map fun e=>e).flatMap cellsE from h1,size_flatK,hsz,r4];simp)
  have cS:=AnyQ.slices_SortFunc_total Tryz.sortE 3 Tryz.isAgg153 Tryz.sizeOf153 cellsE (fun _=>rfl) l9 lZ aat 154 #[] gb 0 cap D0.toArray W (enters_of Tryz.func154 (by kernel_rfl) rfl)
   (fun m os dk hd x y=>Tryz.Vt x y _) hH hgl (by rw [hsz,hxl];omega) (fun x y h1 h2=>by
    rcases EZ x y with e | e | e
    ·rw [(kC x y).2 e] at h1;cases h1
    ·exact e
    ·rw [(kC y x).2 e] at h2;cases h2)
  rw [hsz] at cS;change Calls Tryz.prog 162 _ _ _ at cS
  go_wp2_with (go_at_call 162;refine cS.mono ?_;rintro e W' ⟨rfl,m,os,rfl⟩)
  go_ret
  rw [← hso,← hxl];have hfl:(flatK cellsE 3 (cO D0).toArray).toList=(cO D0).flatMap cellsE:=by
   have h1:=zo (fun e:nX=>e) (cO D0).toArray;rw [show (flatK cellsE 3 (cO D0).toArray).toList=((cO D0).toArray.toList.map fun e=>e).flatMap cellsE from h1];simp
  refine ⟨_,rfl,?_,hB.grown (qG _) hB.size (fun k e=>by cases e;exact hbase)⟩;rw [← hfl];exact yM (by rw [size_flatK,List.size_toArray,show (D0.mergeSort fun x y=>!ltOf lZ y x).length=D0.length from (fB D0).length_eq,hDl]) hbase hgb (by omega) r2 r3
end Go.Proofs
namespace Go.Proofs.YtdonenoiehdahaaGreat
open Go Go.Abs Go.Own Go.RowKit Go.Keys Go.Sort
attribute [local irreducible] WP
theorem Tryz.acp (es:List (D×D)):jg Tryz.prog 153 [0] [.map 0] [((0,0),.map es)] [1] [.func (.func 163) [] [.ptr 1 0]] [((0,0),.map es),((1,0),.cell (.map 0))]:=by
 refine jg.of_wp hT (nt:=_) (c:=_) Tryz.func153 rfl rfl rfl rfl (by kernel_rfl) rfl rfl ?_;intro w0 ok0 wr β0;refine W1 ?_;refine W2 hT hM [1] ?_;conv=>whnf
 repeat (refine gw rfl ?_;conv=>whnf)
 refine ⟨[(0,some 0),(1,some 1)],[],?_,rfl⟩;((conv=>whnf);repeat (first | exact ⟨⟩ | (refine ⟨by first | rfl | (simp;done) | (simp;omega),?_⟩;conv=>whnf)))
theorem acM (l:List Eg):∀ (i c:Nat) (e:Eg),l[i]?=some e→c<3→(l.flatMap cellsE)[i*3+c]?=(cellsE e)[c]?:=Go.Proofs.flat3 l
theorem Tryz.VU (es:List (D×D)) (ks:List Eg) (hk:es.map (·.1)=ks.map egD) (hl:ks.length≤1000000) :
  jg Tryz.prog 152 [0,1] [.func (.func 163) [] [.ptr 1 0],.func (.func 154) [] []] [((0,0),.map es),((1,0),.cell (.map 0))] [] [.d (.list ((cO ks).map egD))] []:=by
 refine ⟨⟨_,Tryz.func152,by kernel_rfl,rfl⟩,fun k r h=>(by cases h),fun β ok w vs hgl hokb hsz has hpre hsep hinj=>?_⟩;obtain ⟨v0,v1,rfl⟩:∃ v0 v1,vs=#[v0,v1]:=by
  have h3:vs.size=2:=hsz;exact ⟨vs[0],vs[1],by apply Array.ext (by simpa using h3);intro i h1 h2;match i,h2 with | 0,_=>rfl | 1,_=>rfl⟩
 have h0:=has 0 v0 _ rfl rfl;have h1:=has 1 v1 _ rfl rfl;obtain rfl:v1 = .func (.func 154) #[] #[]:=by
  cases h1 with
  | func fn fs cs f cc q1 q2 q3 q4=>rw [Array.eq_empty_of_size_eq_zero q1,Array.eq_empty_of_size_eq_zero q2]
 obtain ⟨_,_,r,ents,clock,e1,e2,e3,e4,e5⟩:=hpre (0,0) (.map es) (by simp);obtain ⟨_,b,c,T,u,g1,g2,g3,g4,g5⟩:=hpre (1,0) (.cell (.map 0)) (by simp);cases h0 with
 | func fn fs cs f cc q1 q2 q3 q4=>
   obtain rfl:fs=#[]:=Array.eq_empty_of_size_eq_zero q1;obtain ⟨p,rfl⟩:∃ p,cs=#[p]:=by
    have h3:cs.size=1:=q2;exact ⟨cs[0],by apply Array.ext (by simpa using h3);intro i h1 h2;match i,h2 with | 0,_=>rfl⟩
   have hp:=q4 0 p _ rfl rfl;cases hp with
   | ptr _ _ b' p1 p2=>
     have g1:β 1 = .pointer (some ⟨b,0,none⟩):=g1;rw [p2] at g1;obtain rfl:b'=b:=by simpa using g1
     cases g5 with
     | map _ r' s1 s2=>
       have e1:β 0 = .map (some r):=e1;rw [s2] at e1;obtain rfl:r'=r:=by simpa using e1
       have hm:w.cell? ⟨b',0,none⟩=some (.map (some r')):=(by rw [Go.cell_of_row w b' 0 c T (0,0) g2];exact g3);have hn:ents.size=ks.length:=(by rw [e3];have:=congrArg List.length hk;simpa using this);have hkv:∀ i:Fin ents.size,ents[i].key=kE (ks[i.1]'(by rw [← hn];exact i.2))∧(ks[i.1]'(by rw [← hn];exact i.2)).1.length≤maxLen∧(ks[i.1]'(by rw [← hn];exact i.2)).2.1.length≤maxLen:=fun i=>by
        have hik:i.1<ks.length:=(by rw [← hn];exact i.2);have hie:i.1<es.length:=(by rw [← e3];exact i.2);have h1:=(e4 i.1 ents[i] es[i.1] (by simp) (by simp [hie])).1;have h2:es[i.1].1=egD ks[i.1]:=by
         have:(es.map (·.1))[i.1]?=(ks.map egD)[i.1]?:=by rw [hk]
         simpa [List.getElem?_map,List.getElem?_eq_getElem hik,List.getElem?_eq_getElem hie] using this
        rw [h2] at h1;revert h1;generalize ents[i].key=kk;intro h1;cases h1 with
        | agg us _ t1 t2 t3=>
          obtain ⟨x,y,z,rfl⟩:∃ x y z,us=#[x,y,z]:=by
           have h3:us.size=3:=t1;exact ⟨us[0],us[1],us[2],by apply Array.ext (by simpa using h3);intro i h1 h2;match i,h2 with | 0,_=>rfl | 1,_=>rfl | 2,_=>rfl⟩
          have a0:=t2 0 x _ rfl rfl;have a1:=t2 1 y _ rfl rfl;have a2:=t2 2 z _ rfl rfl;generalize ks[i.1]=e at a0 a1 a2;cases a0 with
          | str s hs=>cases a1 with
            | str s' hs'=>cases a2 with
              | bool bb=>exact ⟨rfl,hs,hs'⟩
       have hL:(List.finRange ents.size).map (fun i=>ks[i.1]'(by rw [← hn];exact i.2))=ks:=by
        apply List.ext_getElem (by simp [hn]);intro i h1 h2;simp
       have hlen:∀ e∈cO ks,e.1.length≤maxLen∧e.2.1.length≤maxLen:=fun e he=>by
        obtain ⟨i,hi,rfl⟩:=List.mem_iff_getElem.1 ((fB ks).mem_iff.1 he);exact (hkv ⟨i,by rw [hn];exact hi⟩).2
       have hcon:=Tryz.MS ⟨b',0,none⟩ r' ents clock _ (fun i=>(hkv i).1) e5 w hm e2 (by omega);rw [hL] at hcon;refine hcon.mono ?_;rintro e w' ⟨v,rfl,hrow,hB⟩
       refine ⟨v,β,fun b=>ok b∨(w.heap.size≤b∧b<w'.heap.size),rfl,fun _ _=>rfl,.d _ _ ?_,fun k r h=>(by cases h),fun k r b h=>(by cases h),fun k k' r r' b h=>(by cases h),
        fun b hb=>hb.elim (fun h=>Nat.lt_of_lt_of_le (hokb b h) hB.size) (fun h=>h.2),fun b h => .inl h,fun b hb=>hb.elim .inl (fun h => .inr (.inl h.1)),BN hB⟩
       have hlm:ents.size=((cO ks).map egD).length:=(by rw [List.length_map,(fB ks).length_eq,hn]);rw [hlm] at hrow;refine Wp (by decide) (fun x hx=>?_) hrow (fun i x j cc hx hc=>?_) (fun b h1 h2 => .inr ⟨h1,h2⟩)
       ·obtain ⟨s,_,rfl⟩:=List.mem_map.1 hx;rfl
       ·simp only [List.getElem?_map,Option.map_eq_some_iff] at hx;obtain ⟨s,hs,rfl⟩:=hx;obtain ⟨l1,l2⟩:=hlen s (List.mem_of_getElem? hs);have hj:j<3:=(List.getElem?_eq_some_iff.1 hc).1;rw [acM _ i j s hs hj]
        match j,hj,hc with
        | 0,_,hc=>
          obtain rfl:D.str s.1=cc:=by simpa [egD,D.cells] using hc
          exact ⟨encStr s.1,rfl,.str _ l1,rfl,rfl⟩
        | 1,_,hc=>
          obtain rfl:D.str s.2.1=cc:=by simpa [egD,D.cells] using hc
          exact ⟨encStr s.2.1,rfl,.str _ l2,rfl,rfl⟩
        | 2,_,hc=>
          obtain rfl:D.bool s.2.2=cc:=by simpa [egD,D.cells] using hc
          exact ⟨.bool s.2.2,rfl,.bool _,rfl,rfl⟩
def mpE (l:List Eg):List (D×D):=l.map fun e=>(egD e,.bool true)
theorem X5 (a b:Eg):aI (egD a).cells (egD b).cells=decide (a=b):=X6 a b.1 b.2.1 b.2.2
theorem E8 (e:Eg):∀ l:List Eg,Abs.look (mpE l) (egD e)=match l.any (fun x=>decide (e=x)) with | true=>some (.bool true) | false=>none
 | []=>rfl
 | x::l=>by
   show (match aI (egD e).cells (egD x).cells with | true=>some (D.bool true) | false=>Abs.look (mpE l) (egD e))=_;rw [X5,E8 e l,List.any_cons];cases decide (e=x)<;>rfl
theorem KA (e:Eg):∀ l:List Eg,(∀ x∈l,x≠e)→vK (mpE l) (egD e) (.bool true)=mpE (l++[e])
 | [],_=>rfl
 | x::l,h=>by
   show (match aI (egD e).cells (egD x).cells with | true=>(egD e,D.bool true)::mpE l | false=>(egD x,D.bool true)::vK (mpE l) (egD e) (.bool true))=_;rw [X5,decide_eq_false (fun h'=>h x (by simp) h'.symm),KA e l fun y hy=>h y (by simp [hy])];rfl
theorem Dw {te:TE} (h:te.ks=[.s,.s,.b]) (hk:te.k.isAgg=true) (l:List Eg):∀ e∈mpE l,aY te e.1=true:=fun e he=>by
 obtain ⟨x,_,rfl⟩:=List.mem_map.1 he;unfold aY;rw [h];simp [egD,D.cells,eX,iI,D.one,hk]
theorem Qd {E:List Eg} (h:E.Nodup) {i:Nat} (hi:i<E.length):∀ x∈E.take i,x≠E[i]:=fun x hx e=>by
 obtain ⟨j,hj,rfl⟩:=List.mem_iff_getElem.1 hx;rw [List.length_take] at hj;rw [List.getElem_take] at e;exact List.pairwise_iff_getElem.1 (List.nodup_iff_pairwise_ne.1 h) j i (by omega) hi (by omega) e
theorem Tryz.edges (E:List Eg) (hd:∀ e∈E,e.1≠dist∧e.2.1≠dist) (hnd:E.Nodup) (hE:E.length≤10000) :
  Pure Tryz.prog 137 [.list (E.map enR)] [.list ((cO E).map egD)]:=by
 refine Pure.of_wp hT (nt:=_) (c:=_) Tryz.func137 rfl rfl rfl rfl (by kernel_rfl) ?_;intro w0 ok0 β0;repeat (refine gw rfl ?_;conv=>whnf)
 refine WP.loop (α:=Nat) (fun i=>⟨[(0,.d (.list (E.map enR))),(3,.map 8),(9,.d (.list (E.map enR))),(10,.d (.int .i64 E.length)),(11,.d (.int .i64 i))],[((8,0),some (.map (mpE (E.take i))))],[8]⟩)
  (fun i=>i≤E.length) (fun i=>E.length-i) 0 [(8,some 8)] [] ?_ ?_ ?_
 ·rw [List.length_map];((conv=>whnf);repeat (first | exact ⟨⟩ | (refine ⟨by first | rfl | (simp;done) | (simp;omega),?_⟩;conv=>whnf)))
 ·exact Nat.zero_le _
 ·intro i hi;repeat (refine gw rfl ?_;conv=>whnf)
  (split<;>rename_i hb<;>(try rw [hb])<;>(conv=>whnf))
  ·have hlt:i<E.length:=(by simpa using hb);clear hb;obtain ⟨hd1,hd2⟩:=hd E[i] (List.getElem_mem hlt);(repeat (refine gw rfl ?_;conv=>whnf));refine ⟨by omega,_,aej hlt,rfl,?_⟩;(conv=>whnf);(repeat (refine gw rfl ?_;conv=>whnf));rw [show (E[i].1==({ data:=#[100,105,115,116,105,110,99,116] }:ByteArray).data.toList)=false from beq_false_of_ne hd1];(conv=>whnf);(repeat (refine gw rfl ?_;conv=>whnf));refine WP.loop (α:=Nat) (fun k=>⟨[(0,.d (.list (E.map enR))),(3,.map 8),(5,.ptr 5 0),(9,.d (.list (E.map enR))),(10,.d (.int .i64 E.length)),(11,.d (.int .i64 i)),(20,.d (.list [bdD E[i]])),(21,.d (.int .i64 1)),(22,.d (.int .i64 k))],[((8,0),some (.map (mpE (E.take (i+k))))),((5,0),some (.cell (.d (.str E[i].1)))),((5,1),some (.cell (.d (.list [])))),((5,2),some (.cell (.d (.list [bdD E[i]]))))],[8,5]⟩)
    (fun k=>k≤1) (fun k=>1-k) 0 [(8,some 8),(5,some 5)] [] ?_ ?_ ?_
   ·((conv=>whnf);repeat (first | exact ⟨⟩ | (refine ⟨by first | rfl | (simp;done) | (simp;omega),?_⟩;conv=>whnf)))
   ·exact Nat.zero_le _
   ·intro k hk;(repeat (refine gw rfl ?_;conv=>whnf));(split<;>rename_i hb<;>(try rw [hb])<;>(conv=>whnf))
    ·have hk0:k=0:=by have:(k:Int)<1:=by simpa using hb
                      omega
     subst hk0;clear hb;(repeat (refine gw rfl ?_;conv=>whnf));refine ⟨by omega,_,rfl,rfl,?_⟩;(conv=>whnf);(repeat (refine gw rfl ?_;conv=>whnf));rw [show (E[i].2.1==({ data:=#[100,105,115,116,105,110,99,116] }:ByteArray).data.toList)=false from beq_false_of_ne hd2];(conv=>whnf);(repeat (refine gw rfl ?_;conv=>whnf));refine ⟨rfl,?_⟩;(conv=>whnf);refine ⟨rfl,?_⟩;(conv=>whnf);refine ⟨rfl,?_⟩;(conv=>whnf);refine ⟨Dw rfl rfl _,?_⟩
     rw [show vK (mpE (E.take (i+0))) _ (D.bool true)=mpE (E.take (i+1)) from by
      rw [List.take_succ_eq_append_getElem hlt];exact KA E[i] (E.take i) (Qd hnd hlt)]
     (conv=>whnf);(repeat (refine gw rfl ?_;conv=>whnf));refine ⟨by omega,?_⟩;(conv=>whnf);refine ⟨1,[(8,some 8),(5,some 5)],[],?_,by omega,by omega⟩;((conv=>whnf);repeat (first | exact ⟨⟩ | (refine ⟨by first | rfl | (simp;done) | (simp;omega),?_⟩;conv=>whnf)))
    ·have hk1:k=1:=by have:¬ (k:Int)<1:=by simpa using hb
                      omega
     subst hk1;clear hb;(repeat (refine gw rfl ?_;conv=>whnf));refine ⟨by omega,?_⟩;(conv=>whnf);refine ⟨i+1,[(8,some 8)],[],?_,by omega,by omega⟩;((conv=>whnf);repeat (first | exact ⟨⟩ | (refine ⟨by first | rfl | (simp;done) | (simp;omega),?_⟩;conv=>whnf)))
  ·have:i=E.length:=(by simp at hb;omega);subst this;clear hb;rw [List.take_length];(repeat (refine gw rfl ?_;conv=>whnf));refine .inr ⟨_,_,_,_,_,_,Tryz.acp (mpE E),[(0,8),(1,43)],[43],rfl,rfl,?_⟩;(conv=>whnf);refine ⟨rfl,?_⟩;(conv=>whnf);refine .inr ⟨_,_,_,_,_,_,Tryz.VU (mpE E) E (by unfold mpE;rw [List.map_map];rfl) (by omega),[(0,8),(1,43)],[],rfl,rfl,?_⟩;(conv=>whnf);refine ⟨rfl,rfl,?_⟩;(conv=>whnf);repeat (refine gw rfl ?_;conv=>whnf)
end Go.Proofs.YtdonenoiehdahaaGreat
namespace Go.Proofs.YtdonenoiehdahaaGreat
open Go Go.Abs Go.Own
attribute [local irreducible] WP
theorem Tryz.step (e:Eg):Pure Tryz.prog 138 [.agg [.str e.1,.str e.2.1,.bool e.2.2]] [.int .i64 ((fA e:Nat):Int)]:=by
 refine Pure.of_wp hT (nt:=_) (c:=_) Tryz.func138 rfl rfl rfl rfl (by kernel_rfl) ?_;intro w0 ok0 β0;obtain ⟨a,b,c⟩:=e;repeat (refine gw rfl ?_;conv=>whnf)
 cases c with
 | true=>
   (conv=>whnf);(repeat (refine gw rfl ?_;conv=>whnf));rfl
 | false=>
   (conv=>whnf);(repeat (refine gw rfl ?_;conv=>whnf));rfl
def lkN:List (Str×Nat)→Str→Nat
 | [],_=>0
 | e::es,s=>match decide (s=e.1) with | true=>e.2 | false=>lkN es s
def ptN:List (Str×Nat)→Str→Nat→List (Str×Nat)
 | [],s,n=>[(s,n)]
 | e::es,s,n=>match decide (s=e.1) with | true=>(s,n)::es | false=>e::ptN es s n
def toD (es:List (Str×Nat)):List (Str×D):=es.map fun e=>(e.1,D.int .i64 (e.2:Nat))
def mpL (es:List (Str×Nat)):List (D×D):=mpS (toD es)
theorem yX (s:Str):∀ es:List (Str×Nat),(Abs.look (mpL es) (.str s)).getD (.int .i64 0) = .int .i64 (lkN es s:Nat)
 | []=>rfl
 | e::es=>by
   unfold mpL;rw [E5];have ih:=yX s es;unfold mpL at ih;rw [E5] at ih;show Option.getD (match decide (s=e.1) with | true=>some (D.int .i64 (e.2:Nat)) | false=>lkS (toD es) s) _=D.int .i64 ((match decide (s=e.1) with | true=>e.2 | false=>lkN es s:Nat):Int);cases decide (s=e.1) with
   | true=>rfl
   | false=>exact ih
theorem Y8 (s:Str) (n:Nat) (es:List (Str×Nat)):vK (mpL es) (.str s) (.int .i64 (n:Nat))=mpL (ptN es s n):=by
 unfold mpL;rw [Df];congr 1
 induction es with
 | nil=>rfl
 | cons e es ih=>
   show (match decide (s=e.1) with | true=>(s,D.int .i64 (n:Nat))::toD es | false=>(e.1,D.int .i64 (e.2:Nat))::ptS (toD es) s (.int .i64 (n:Nat)))=toD (match decide (s=e.1) with | true=>(s,n)::es | false=>e::ptN es s n);rw [ih];cases decide (s=e.1)<;>rfl
theorem SI (s:Str) (n:Nat) (es:List (Str×Nat)):lkN (ptN es s n)=raise (lkN es) s n:=by
 funext x;unfold raise
 induction es with
 | nil=>
   show (match decide (x=s) with | true=>n | false=>0)=_;by_cases h:x=s<;>simp [h,lkN]
 | cons e es ih=>
   show lkN (match decide (s=e.1) with | true=>(s,n)::es | false=>e::ptN es s n) x=if x=s then n else (match decide (x=e.1) with | true=>e.2 | false=>lkN es x)
   by_cases h:s=e.1
   ·rw [decide_eq_true h];show (match decide (x=s) with | true=>n | false=>lkN es x)=_;by_cases h':x=s
    ·simp [h']
    ·have:¬ x=e.1:=fun e'=>h' (e'.trans h.symm)
     simp [h',this]
   ·rw [decide_eq_false h];show (match decide (x=e.1) with | true=>e.2 | false=>lkN (ptN es s n) x)=_;rw [ih];by_cases h':x=e.1
    ·have:¬ x=s:=fun e'=>h (e'.symm.trans h')
     simp [h',Ne.symm h]
    ·simp [h']
theorem Dv {te:TE} (h:te.ks=[.s]) (hk:te.k.isAgg=false) (es:List (Str×Nat)):∀ e∈mpL es,aY te e.1=true:=Du h hk _
def Pe (k:Nat):Bool→Nat→Bool:=fun up need=>match up with | true=>decide (k≤need) | false=>false
def Ap (names:List Str) (E:List Eg):Option (Str→Nat):=bG (Pe names.length) E (room names.length names (fun _=>0)+1) (fun _=>0)
theorem aak {k:Nat}:∀ u n,Pe k u n=true→k≤n:=fun u n h=>by
 cases u with
 | true=>exact of_decide_eq_true h
 | false=>cases h
theorem Ur {k:Nat}:∀ u n,Pe k u n=false→u=true→n≤k:=fun u n h hu=>by
 subst hu;have:=of_decide_eq_false h;omega
theorem En {E:List Eg}:∀ e∈E,e.1∈qX E∧e.2.1∈qX E:=fun e he=>
 ⟨(lM _).mem_iff.2 (ET.2 ⟨e,he,.inl rfl⟩),(lM _).mem_iff.2 (ET.2 ⟨e,he,.inr rfl⟩)⟩
theorem Nj (E:List Eg):(qX E).length≤2*E.length:=by
 unfold qX;rw [(lM _).length_eq];have:=NY E;unfold vZ
 rwa [List.length_map]
set_option maxRecDepth 10000 in
theorem Tryz.levels (E:List Eg) (hd:∀ e∈E,e.1≠dist∧e.2.1≠dist) (hnd:E.Nodup) (hE:E.length≤10000) :
  Pure Tryz.prog 114 [.list (E.map enR)] (match Ap (qX E) (cO E) with | some lv=>[.list (lvD (qX E) lv),.int .i64 0] | none=>[.list [],.int .i64 10]):=by
 have hm:∀ e∈cO E,e.1∈qX E∧e.2.1∈qX E:=fun e he=>En e ((fB E).mem_iff.1 he)
 have hn:=Nj E;have hEl:(cO E).length≤10000:=by rw [(fB E).length_eq];exact hE
 have hrel:=Tryz.relations E hd hE;have hedg:=Tryz.edges E hd hnd hE;generalize hG:E.map enR=LE at hrel hedg ⊢;clear hG;generalize qX E=names at hm hn hrel ⊢;generalize cO E=G at hm hEl hedg ⊢;clear hd hnd;refine Pure.of_wp hT (nt:=_) (c:=_) Tryz.func114 rfl rfl rfl rfl (by kernel_rfl) ?_;intro w0 ok0 β0;repeat (refine gw rfl ?_;conv=>whnf)
 refine .inl ⟨_,hrel,.inl rfl,?_⟩;conv=>whnf
 repeat (refine gw rfl ?_;conv=>whnf)
 refine .inl ⟨_,hedg,.inl rfl,?_⟩;conv=>whnf
 repeat (refine gw rfl ?_;conv=>whnf)
 refine WP.loop (α:=List (Str×Nat)×Bool×Nat) (fun y=>⟨[(0,.d (.list LE)),(4,.d (.list (names.map D.str))),(5,.d (.list (G.map egD))),(6,.map 18),(7,.d (.bool y.2.1))],[((18,0),some (.map (mpL y.1)))],[18]⟩)
  (fun y=>match y.2.1 with | true=>Ap names G=bG (Pe names.length) G y.2.2 (lkN y.1)∧room names.length names (lkN y.1)<y.2.2∧∀ x∈names,lkN y.1 x≤names.length | false=>Ap names G=some (lkN y.1)∧y.2.2=0) (fun y=>y.2.2) ([],true,room names.length names (fun _=>0)+1) [(18,some 18)] [] ?_ ?_ ?_
 ·((conv=>whnf);repeat (first | exact ⟨⟩ | (refine ⟨by first | rfl | (simp;done) | (simp;omega),?_⟩;conv=>whnf)))
 ·exact ⟨rfl,Nat.lt_succ_self _,fun x _=>Nat.zero_le _⟩
 ·rintro ⟨es,more,F⟩ hI;cases more with
  | false=>
    obtain ⟨hI,_⟩:=hI;dsimp only at hI;rw [hI];(repeat (refine gw rfl ?_;conv=>whnf));refine WP.loop (α:=Nat) (fun i=>⟨[(4,.d (.list (names.map D.str))),(6,.map 18),(11,.sl 11 2 0 i),(48,.d (.list (names.map D.str))),(49,.d (.int .i64 names.length)),(50,.d (.int .i64 i))],[((18,0),some (.map (mpL es))),((11,0),some (.arr 2 (lvD (names.take i) (lkN es))))],[18,11]⟩)
     (fun i=>i≤names.length) (fun i=>names.length-i) 0 [(18,some 18),(11,none)] [] ?_ ?_ ?_
    ·rw [List.length_map];((conv=>whnf);repeat (first | exact ⟨⟩ | (refine ⟨by first | rfl | (simp;done) | (simp;omega),?_⟩;conv=>whnf)))
    ·exact Nat.zero_le _
    ·intro i hi;(repeat (refine gw rfl ?_;conv=>whnf));(split<;>rename_i hb<;>(try rw [hb])<;>(conv=>whnf))
     ·have hlt:i<names.length:=(by simpa using hb);clear hb;(repeat (refine gw rfl ?_;conv=>whnf));refine ⟨by omega,_,aN hlt,rfl,?_⟩;(conv=>whnf);(repeat (refine gw rfl ?_;conv=>whnf));refine ⟨Dv rfl rfl _,?_⟩;(conv=>whnf);rw [yX];(conv=>whnf);refine ⟨rfl,?_⟩;(conv=>whnf);refine ⟨rfl,?_⟩;(conv=>whnf);refine ⟨rfl,?_⟩;(conv=>whnf);refine ⟨lvD (names.take i) (lkN es),by rw [List.drop_zero];exact List.take_of_length_le (by simp only [lvD,List.length_map,List.length_take];omega),by simp only [lvD,List.length_map,List.length_take];omega,?_⟩;(conv=>whnf);refine ⟨_,rfl,Nat.le_refl _,?_⟩;(conv=>whnf);refine ⟨by show (_+1)*24≤_;simp only [lvD,List.length_map,List.length_take];omega,?_⟩;(conv=>whnf);(repeat (refine gw rfl ?_;conv=>whnf));refine ⟨by omega,?_⟩;(conv=>whnf);refine ⟨i+1,[(18,some 18),(11,some 61)],[],?_,by omega,by omega⟩;have e1:(lvD (names.take i) (lkN es)).length+(List.take [D.agg [D.str names[i],D.int .i64 (lkN es names[i]:Nat)]].length (List.drop 0 [D.agg [D.str names[i],D.int .i64 (lkN es names[i]:Nat)]])).length=i+1:=(by simp only [lvD,List.length_map,List.length_take,List.drop_zero,List.length_singleton];omega);have e2:lvD (names.take i) (lkN es)++List.take [D.agg [D.str names[i],D.int .i64 (lkN es names[i]:Nat)]].length (List.drop 0 [D.agg [D.str names[i],D.int .i64 (lkN es names[i]:Nat)]])=lvD (names.take (i+1)) (lkN es):=by
       unfold lvD;rw [List.take_succ_eq_append_getElem hlt,List.map_append];rfl
      rw [e1,e2];((conv=>whnf);repeat (first | exact ⟨⟩ | (refine ⟨by first | rfl | (simp;done) | (simp;omega),?_⟩;conv=>whnf)))
     ·have:i=names.length:=(by simp at hb;omega);subst this;clear hb;rw [List.take_length];(repeat (refine gw rfl ?_;conv=>whnf));refine ⟨lvD names (lkN es),by rw [List.drop_zero];exact List.take_of_length_le (by simp [lvD]),by simp [lvD],?_⟩;conv=>whnf
  | true=>
    obtain ⟨hI,hF,hl0⟩:=hI;dsimp only at hI hF hl0 ⊢;obtain ⟨F,rfl⟩:∃ F',F=F'+1:=⟨F-1,by omega⟩
    (repeat (refine gw rfl ?_;conv=>whnf));refine WP.loop (α:=List (Str×Nat)×Bool×Nat) (fun y=>⟨[(0,.d (.list LE)),(4,.d (.list (names.map D.str))),(5,.d (.list (G.map egD))),(6,.map 18),(7,.d (.bool y.2.1)),(20,.d (.list (G.map egD))),(21,.d (.int .i64 G.length)),(22,.d (.int .i64 y.2.2))],[((18,0),some (.map (mpL y.1)))],[18]⟩)
     (fun y=>y.2.2≤G.length∧dM (Pe names.length) G (lkN es) false=dM (Pe names.length) (G.drop y.2.2) (lkN y.1) y.2.1∧∀ x∈names,lkN y.1 x≤names.length) (fun y=>G.length-y.2.2) (es,false,0) [(18,some 18)] [] ?_ ?_ ?_
    ·rw [List.length_map];((conv=>whnf);repeat (first | exact ⟨⟩ | (refine ⟨by first | rfl | (simp;done) | (simp;omega),?_⟩;conv=>whnf)))
    ·exact ⟨Nat.zero_le _,rfl,hl0⟩
    ·rintro ⟨et,mo,j⟩ ⟨hj,hrel,hlw⟩;dsimp only at hj hrel hlw ⊢;(repeat (refine gw rfl ?_;conv=>whnf));(split<;>rename_i hb<;>(try rw [hb])<;>(conv=>whnf))
     ·have hjl:j<G.length:=(by simpa using hb);clear hb;obtain ⟨hfm,htm⟩:=hm G[j] (List.getElem_mem hjl);have hl1:=hlw _ htm;have hst:fA G[j]≤1:=(by unfold fA;split<;>omega);rw [List.drop_eq_getElem_cons hjl,rX] at hrel;(repeat (refine gw rfl ?_;conv=>whnf));refine ⟨by omega,_,Xu hjl,rfl,?_⟩;(conv=>whnf);(repeat (refine gw rfl ?_;conv=>whnf));refine ⟨Dv rfl rfl _,?_⟩;(conv=>whnf);rw [yX];(conv=>whnf);refine .inl ⟨_,Tryz.step G[j],.inl rfl,?_⟩;(conv=>whnf);refine ⟨by omega,?_⟩;rw [show ((lkN et G[j].2.1:Nat):Int)+((fA G[j]:Nat):Int)=((lkN et G[j].2.1+fA G[j]:Nat):Int) by omega];generalize hnd:lkN et G[j].2.1+fA G[j]=nd at hrel ⊢;(conv=>whnf);(repeat (refine gw rfl ?_;conv=>whnf));refine ⟨Dv rfl rfl _,?_⟩;(conv=>whnf);rw [yX];(conv=>whnf);(repeat (refine gw rfl ?_;conv=>whnf));have hnb:nd≤names.length+1:=(by omega);by_cases hup:lkN et G[j].1<nd
      ·rw [decide_eq_true hup] at hrel;rw [show decide (((lkN et G[j].1:Nat):Int)<((nd:Nat):Int))=true from decide_eq_true (by omega)];(conv=>whnf);(repeat (refine gw rfl ?_;conv=>whnf));refine ⟨Dv rfl rfl _,?_⟩;rw [Y8];(conv=>whnf);(repeat (refine gw rfl ?_;conv=>whnf));rw [List.length_map];by_cases hge:names.length≤nd
       ·rw [show Pe names.length true nd=true from decide_eq_true hge] at hrel;rw [show decide (((nd:Nat):Int)≥((names.length:Nat):Int))=true from decide_eq_true (by omega)];unfold bG at hI;rw [hrel] at hI;rw [hI];(conv=>whnf);repeat (refine gw rfl ?_;conv=>whnf)
       ·rw [show Pe names.length true nd=false from decide_eq_false hge] at hrel;rw [show decide (((nd:Nat):Int)≥((names.length:Nat):Int))=false from decide_eq_false (by omega)];(conv=>whnf);(repeat (refine gw rfl ?_;conv=>whnf));refine ⟨by omega,?_⟩;(conv=>whnf);refine ⟨(ptN et G[j].1 nd,true,j+1),[(18,some 18)],[],?_,⟨by dsimp only;omega,?_,fun x hx=>?_⟩,by dsimp only;omega⟩
        ·((conv=>whnf);repeat (first | exact ⟨⟩ | (refine ⟨by first | rfl | (simp;done) | (simp;omega),?_⟩;conv=>whnf)))
        ·dsimp only;rw [SI,hrel,Bool.or_true];rfl
        ·dsimp only;rw [SI];unfold raise;split
         ·omega
         ·exact hlw x hx
      ·rw [decide_eq_false hup] at hrel;rw [show decide (((lkN et G[j].1:Nat):Int)<((nd:Nat):Int))=false from decide_eq_false (by omega)];(conv=>whnf);(repeat (refine gw rfl ?_;conv=>whnf));refine ⟨by omega,?_⟩;(conv=>whnf);refine ⟨(et,mo,j+1),[(18,some 18)],[],?_,⟨by dsimp only;omega,?_,hlw⟩,by dsimp only;omega⟩
       ·((conv=>whnf);repeat (first | exact ⟨⟩ | (refine ⟨by first | rfl | (simp;done) | (simp;omega),?_⟩;conv=>whnf)))
       ·dsimp only;rw [hrel,Bool.or_false];rfl
     ·have:j=G.length:=(by simp at hb;omega);subst this;clear hb;(repeat (refine gw rfl ?_;conv=>whnf));rw [List.drop_length] at hrel;refine ⟨(et,mo,match mo with | true=>F | false=>0),[(18,some 18)],[],?_,?_,?_⟩
      ·((conv=>whnf);repeat (first | exact ⟨⟩ | (refine ⟨by first | rfl | (simp;done) | (simp;omega),?_⟩;conv=>whnf)))
      ·dsimp only;unfold bG at hI;rw [hrel] at hI;cases mo with
       | false=>exact ⟨hI,rfl⟩
       | true=>
         refine ⟨hI,?_,hlw⟩;rcases nC Ur hm hrel with h | h
         ·cases h
         ·dsimp only;omega
      ·cases mo with
       | false=>exact Nat.succ_pos _
       | true=>exact Nat.lt_succ_self _
def ixL (n:Str):List Lv→Nat
 | []=>0
 | x::l=>if x.1=n then 0 else ixL n l+1
theorem Xm (n:Str):∀ l:List Lv,ixL n l≤l.length
 | []=>Nat.le_refl _
 | x::l=>by
   have:=Xm n l;unfold ixL;split<;>simp<;>omega
theorem WL (n:Str):∀ l:List Lv,ofL n l=match l[ixL n l]? with | some x=>x.2 | none=>-1
 | []=>rfl
 | x::l=>by
   unfold ofL ixL;by_cases h:x.1=n
   ·rw [if_pos h,if_pos h];rfl
   ·rw [if_neg h,if_neg h,List.getElem?_cons_succ,WL n l]
theorem Xn {n:Str} {l:List Lv} {i:Nat} (hi:i<l.length) (h:ixL n l=i+ixL n (l.drop i)):(l[i].1=n→ixL n l=i)∧(l[i].1≠n→ixL n l=(i+1)+ixL n (l.drop (i+1))):=by
 rw [List.drop_eq_getElem_cons hi,ixL] at h;constructor
 ·intro e;rw [if_pos e] at h;omega
 ·intro e;rw [if_neg e] at h;omega
theorem Tryz.ofEq (x:Lv) (n:Str):Pure Tryz.prog 140 [.agg [.str x.1,.int .i64 x.2],.ref [.str n] 0] [.bool (x.1==n)]:=by
 refine Pure.of_wp hT (nt:=_) (c:=_) Tryz.func140 rfl rfl rfl rfl (by kernel_rfl) ?_;intro w0 ok0 β0;repeat (refine gw rfl ?_;conv=>whnf)
theorem Tryz.acy (l:List Lv) (n:Str) (hl:l.length≤1000000):Pure Tryz.prog 139 [.list (l.map enV),.fn 140 [.ref [.str n] 0]] [.int .i64 (match decide (ixL n l<l.length) with | true=>((ixL n l:Nat):Int) | false=>-1)]:=by
 refine Pure.of_wp hT (nt:=_) (c:=_) Tryz.func139 rfl rfl rfl rfl (by kernel_rfl) ?_;intro w0 ok0 β0;repeat (refine gw rfl ?_;conv=>whnf)
 refine WP.loop (α:=Nat) (fun i=>⟨[(0,.d (.list (l.map enV))),(1,.d (.fn 140 [.ref [.str n] 0])),(7,.d (.int .i64 l.length)),(8,.d (.int .i64 i))],[],[]⟩) (fun i=>i≤l.length∧ixL n l=i+ixL n (l.drop i)) (fun i=>l.length-i) 0 [] [] ?_ ?_ ?_
 ·rw [List.length_map];((conv=>whnf);repeat (first | exact ⟨⟩ | (refine ⟨by first | rfl | (simp;done) | (simp;omega),?_⟩;conv=>whnf)))
 ·simp
 ·rintro i ⟨hi,hx⟩;repeat (refine gw rfl ?_;conv=>whnf)
  (split<;>rename_i hb<;>(try rw [hb])<;>(conv=>whnf))
  ·have hlt:i<l.length:=(by simpa using hb);clear hb;have hs:=Xn hlt hx;(repeat (refine gw rfl ?_;conv=>whnf));refine ⟨by omega,_,ZC hlt,rfl,?_⟩;(conv=>whnf);refine .inl ⟨_,Tryz.ofEq l[i] n,.inl rfl,?_⟩;(conv=>whnf);by_cases e:l[i].1=n
   ·rw [show (l[i].1==n)=true by simpa using e];have h0:=hs.1 e;rw [h0,decide_eq_true hlt];repeat (refine gw rfl ?_;conv=>whnf)
   ·rw [show (l[i].1==n)=false by simpa using e];have h1:=hs.2 e;(repeat (refine gw rfl ?_;conv=>whnf));refine ⟨by omega,?_⟩;(conv=>whnf);refine ⟨i+1,[],[],?_,⟨by omega,h1⟩,by omega⟩;((conv=>whnf);repeat (first | exact ⟨⟩ | (refine ⟨by first | rfl | (simp;done) | (simp;omega),?_⟩;conv=>whnf)))
  ·have:i=l.length:=(by simp at hb;omega);subst this;clear hb;rw [List.drop_length] at hx;rw [show decide (ixL n l<l.length)=false from decide_eq_false (by rw [hx];simp [ixL])];repeat (refine gw rfl ?_;conv=>whnf)
theorem Tryz.ofP (l:List Lv) (n:Str) (hl:l.length≤1000000):Pure Tryz.prog 115 [.list (l.map enV),.str n] [.int .i64 (ofL n l)]:=by
 refine Pure.of_wp hT (nt:=_) (c:=_) Tryz.func115 rfl rfl rfl rfl (by kernel_rfl) ?_;intro w0 ok0 β0;have hle:=Xm n l;repeat (refine gw rfl ?_;conv=>whnf)
 refine .inl ⟨_,Tryz.acy l n hl,.inl rfl,?_⟩;rw [WL];by_cases h:ixL n l<l.length
 ·rw [decide_eq_true h,List.getElem?_eq_getElem h];dsimp only;conv=>whnf
  repeat (refine gw rfl ?_;conv=>whnf)
  rw [show decide (((ixL n l:Nat):Int)<0)=false from decide_eq_false (by omega)];conv=>whnf
  repeat (refine gw rfl ?_;conv=>whnf)
  refine ⟨by omega,_,ZC h,rfl,?_⟩;conv=>whnf
  repeat (refine gw rfl ?_;conv=>whnf)
 ·rw [decide_eq_false h,List.getElem?_eq_none (by omega)];conv=>whnf
  repeat (refine gw rfl ?_;conv=>whnf)
theorem Tryz.relation (atoms:List Tm) (rules:List Gr) (a:Int) (h0:0≤a) (h1:a.toNat<atoms.length):Pure Tryz.prog 113 [gD atoms rules,.int .i64 a] [.agg [.str (nameAt atoms a),.list []]]:=by
 have hna:nameAt atoms a=atoms[a.toNat].name:=by unfold nameAt;rw [List.getElem?_eq_getElem h1]
 rw [hna];refine Pure.of_wp hT (nt:=_) (c:=_) Tryz.func113 rfl rfl rfl rfl (by kernel_rfl) ?_;intro w0 ok0 β0;repeat (refine gw rfl ?_;conv=>whnf)
 refine ⟨by omega,_,wo h1,rfl,?_⟩;conv=>whnf
 repeat (refine gw rfl ?_;conv=>whnf)
 refine ⟨rfl,?_⟩;conv=>whnf
 repeat (refine gw rfl ?_;conv=>whnf)
theorem Ux {L:List Eg} {e:Eg}:(L.any fun x=>decide (e=x))=true↔e∈L:=by
 simp
theorem Tryz.YI (atoms:List Tm) (rules:List Gr) (L:List Eg) (h a:Int) (nt:Bool) (h0:0≤h) (h1:h.toNat<atoms.length) (a0:0≤a) (a1:a.toNat<atoms.length) (hm:(nameAt atoms h,nameAt atoms a,nt)∈L) :
  jg Tryz.prog 112 [4,17,5,18] [.d (.int .i64 h),.d (.int .i64 a),.d (.bool nt),.d (.ref [.list (atoms.map enT),.list (rules.map enG)] 0),.ptr 4 0,.ptr 5 0]
   [((4,0),.cell (.map 17)),((17,0),.map (mpE L)),((5,0),.cell (.sl 18 3 0 L.length)),((18,0),.arr 3 (L.map enR))] [] [] [((4,0),.cell (.map 17)),((17,0),.map (mpE L)),((5,0),.cell (.sl 18 3 0 L.length)),((18,0),.arr 3 (L.map enR))]:=by
 have hna:nameAt atoms h=atoms[h.toNat].name:=by unfold nameAt;rw [List.getElem?_eq_getElem h1]
 have hnb:nameAt atoms a=atoms[a.toNat].name:=by unfold nameAt;rw [List.getElem?_eq_getElem a1]
 have hlk:(Abs.look (mpE L) (.agg [.str atoms[h.toNat].name,.str atoms[a.toNat].name,.bool nt])).getD (.bool false) = .bool true:=by
  have:=E8 (nameAt atoms h,nameAt atoms a,nt) L;rw [Ux.2 hm,hna,hnb] at this;exact congrArg (fun o:Option D=>o.getD (.bool false)) this
 refine jg.of_wp hT (nt:=_) (c:=_) Tryz.func112 rfl rfl rfl rfl (by kernel_rfl) rfl rfl ?_;intro w0 ok0 wr β0;repeat (refine gw rfl ?_;conv=>whnf)
 refine ⟨by omega,_,wo h1,rfl,?_⟩;conv=>whnf
 refine ⟨by omega,_,wo a1,rfl,?_⟩;conv=>whnf
 refine ⟨rfl,?_⟩;conv=>whnf
 refine ⟨rfl,?_⟩;conv=>whnf
 refine ⟨rfl,?_⟩;conv=>whnf
 repeat (refine gw rfl ?_;conv=>whnf)
 refine ⟨Dw rfl rfl _,?_⟩;conv=>whnf
 rw [hlk];conv=>whnf
 repeat (refine gw rfl ?_;conv=>whnf)
 refine ⟨[(4,some 4),(17,some 17),(5,some 5),(18,some 18)],[],?_,rfl⟩;((conv=>whnf);repeat (first | exact ⟨⟩ | (refine ⟨by first | rfl | (simp;done) | (simp;omega),?_⟩;conv=>whnf)))
theorem Tryz.YK (atoms:List Tm) (rules:List Gr) (L:List Eg) (h a:Int) (nt:Bool) (h0:0≤h) (h1:h.toNat<atoms.length) (a0:0≤a) (a1:a.toNat<atoms.length) (hm:(nameAt atoms h,nameAt atoms a,nt)∉L) (hL:L.length≤10000) :
  jg Tryz.prog 112 [4,17,5,18] [.d (.int .i64 h),.d (.int .i64 a),.d (.bool nt),.d (.ref [.list (atoms.map enT),.list (rules.map enG)] 0),.ptr 4 0,.ptr 5 0]
   [((4,0),.cell (.map 17)),((17,0),.map (mpE L)),((5,0),.cell (.sl 18 3 0 L.length)),((18,0),.arr 3 (L.map enR))] [42] [] [((4,0),.cell (.map 17)),((17,0),.map (mpE (L++[(nameAt atoms h,nameAt atoms a,nt)]))),((5,0),.cell (.sl 42 3 0 (L.length+1))),((42,0),.arr 3 ((L++[(nameAt atoms h,nameAt atoms a,nt)]).map enR))]:=by
 have hna:nameAt atoms h=atoms[h.toNat].name:=by unfold nameAt;rw [List.getElem?_eq_getElem h1]
 have hnb:nameAt atoms a=atoms[a.toNat].name:=by unfold nameAt;rw [List.getElem?_eq_getElem a1]
 have hlk:(Abs.look (mpE L) (.agg [.str atoms[h.toNat].name,.str atoms[a.toNat].name,.bool nt])).getD (.bool false) = .bool false:=by
  have:=E8 (nameAt atoms h,nameAt atoms a,nt) L;rw [Bool.eq_false_iff.2 (fun e=>hm (Ux.1 e)),hna,hnb] at this;exact congrArg (fun o:Option D=>o.getD (.bool false)) this
 refine jg.of_wp hT (nt:=_) (c:=_) Tryz.func112 rfl rfl rfl rfl (by kernel_rfl) rfl rfl ?_;intro w0 ok0 wr β0;repeat (refine gw rfl ?_;conv=>whnf)
 refine ⟨by omega,_,wo h1,rfl,?_⟩;conv=>whnf
 refine ⟨by omega,_,wo a1,rfl,?_⟩;conv=>whnf
 refine ⟨rfl,?_⟩;conv=>whnf
 refine ⟨rfl,?_⟩;conv=>whnf
 refine ⟨rfl,?_⟩;conv=>whnf
 repeat (refine gw rfl ?_;conv=>whnf)
 refine ⟨Dw rfl rfl _,?_⟩;conv=>whnf
 rw [hlk];conv=>whnf
 refine W7 ?_ rfl;conv=>whnf
 refine W1 ?_;refine W2 hT hM [] ?_;conv=>whnf
 refine ⟨Dw rfl rfl _,?_⟩
 rw [show vK (mpE L) _ (D.bool true)=mpE (L++[(nameAt atoms h,nameAt atoms a,nt)]) from by
  have:=KA (nameAt atoms h,nameAt atoms a,nt) L (fun x hx e=>hm (by rw [← e];exact hx));rw [hna,hnb] at this ⊢
  exact this]
 conv=>whnf
 refine W2 hT hM [39] ?_;conv=>whnf
 refine .inl ⟨_,Tryz.relation atoms rules h h0 h1,.inl rfl,?_⟩;conv=>whnf
 refine .inl ⟨_,Tryz.relation atoms rules a a0 a1,.inl rfl,?_⟩;conv=>whnf
 refine ⟨rfl,?_⟩;conv=>whnf
 refine ⟨rfl,?_⟩;conv=>whnf
 refine ⟨rfl,?_⟩;conv=>whnf
 refine ⟨rfl,?_⟩;conv=>whnf
 refine ⟨L.map enR,by rw [List.drop_zero];exact List.take_of_length_le (by simp),by simp,?_⟩;conv=>whnf
 refine ⟨_,rfl,Nat.le_refl _,?_⟩;conv=>whnf
 refine ⟨by show (_+1)*64≤_;rw [List.length_map];omega,?_⟩;conv=>whnf
 repeat (refine gw rfl ?_;conv=>whnf)
 refine ⟨[(4,some 4),(17,some 17),(5,some 5),(18,some 18),(42,some 42)],[],?_,rfl⟩;rw [List.map_append,List.map_singleton,show enR (nameAt atoms h,nameAt atoms a,nt)=D.agg [D.str (nameAt atoms h),D.list [],D.list [D.agg [D.bool nt,D.str (nameAt atoms a),D.list []]]] from rfl];((conv=>whnf);repeat (first | exact ⟨⟩ | (refine ⟨by first | rfl | (simp;done) | (simp;omega),?_⟩;conv=>whnf)))
end Go.Proofs.YtdonenoiehdahaaGreat
namespace Go.Own
theorem Em {bad:Bool→Nat→Bool} {f:Str→Nat}:∀ {E:List Eg} {lv lv':Str→Nat} {m m':Bool},dM bad E lv m=some (lv',m')→jq E f→(∀ x,lv x≤f x)→∀ x,lv' x≤f x
 | [],lv,lv',m,m',h,_,hl=>by unfold dM at h;cases h;exact hl
 | e::E,lv,lv',m,m',h,hs,hl=>by
   unfold dM at h;simp only at h;split at h
   ·cases h
   ·refine Em h (fun e' he'=>hs e' (by simp [he'])) fun x=>?_
    have h1:=hs e (by simp);have h2:=hl e.2.1;cases hu:decide (lv e.1<lv e.2.1+fA e) with
    | true=>
      show raise lv e.1 _ x≤f x;unfold raise;split
      ·rename_i ex;subst ex;omega
      ·exact hl x
    | false=>exact hl x
theorem kT {bad:Bool→Nat→Bool} {E:List Eg}:∀ {F:Nat} {lv lv':Str→Nat},bG bad E F lv=some lv'→jq E lv'∧∀ f,jq E f→(∀ x,lv x≤f x)→∀ x,lv' x≤f x
 | 0,_,_,h=>by cases h
 | F+1,lv,lv',h=>by
   unfold bG at h;split at h
   ·cases h
   ·rename_i lw hr;obtain ⟨h1,h2⟩:=kT h;exact ⟨h1,fun f hf hl=>h2 f hf (Em hr hf hl)⟩
   ·rename_i lw hr;cases h;obtain ⟨rfl,h1⟩:=rW hr;exact ⟨h1,fun f _ hl=>hl⟩
theorem jq.congr {E E':List Eg} {f:Str→Nat} (h:∀ e,e∈E↔e∈E') (hs:jq E f):jq E' f:=hs.of_sub fun e he=>(h e).2 he
theorem Ql {bad bad':Bool→Nat→Bool} {E E':List Eg} {F F':Nat} {lv lv':Str→Nat} (hE:∀ e,e∈E↔e∈E') (h:bG bad E F (fun _=>0)=some lv) (h':bG bad' E' F' (fun _=>0)=some lv'):lv=lv':=by
 obtain ⟨h1,h2⟩:=kT h;obtain ⟨h3,h4⟩:=kT h';funext x;exact Nat.le_antisymm (h2 lv' (h3.congr fun e=>(hE e).symm) (fun _=>Nat.zero_le _) x) (h4 lv (h1.congr hE) (fun _=>Nat.zero_le _) x)
theorem Qk {bad:Bool→Nat→Bool} {E:List Eg} {F:Nat} {lv:Str→Nat} (h:bG bad E F (fun _=>0)=some lv) {x:Str} (hx:∀ e∈E,e.1≠x):lv x=0:=by
 obtain ⟨h1,h2⟩:=kT h;have hs:jq E (fun y=>if y=x then 0 else lv y):=fun e he=>by
  have:=h1 e he;simp only;rw [if_neg (hx e he)];split<;>omega
 have:=h2 _ hs (fun _=>Nat.zero_le _) x;simp at this;exact this
end Go.Own
namespace Go.Proofs.YtdonenoiehdahaaGreat
open Go Go.Abs Go.Own
attribute [local irreducible] WP
theorem Qm {names:List Str} {L:List Eg} (hm:∀ e∈L,e.1∈names∧e.2.1∈names):Ap (qX L) (cO L)=jy names L:=by
 have hp:∀ e,e∈cO L↔e∈L:=fun e=>(fB L).mem_iff
 have h1:(Ap (qX L) (cO L)).isSome=qh (cO L):=yZ aak Ur (fun e he=>En e ((hp e).1 he)) (Nat.lt_succ_self _);have h2:(jy names L).isSome=qh L:=yZ (k:=names.length) (fun u n h=>Nat.le_of_lt (of_decide_eq_true h)) (fun u n h _=>by have:=of_decide_eq_false h;omega) hm (Nat.lt_succ_self _);rw [J8 hp,← h2] at h1;cases ha:Ap (qX L) (cO L) with
 | none=>
   cases hb:jy names L with
   | none=>rfl
   | some lv=>rw [ha,hb] at h1;cases h1
 | some lv=>
   cases hb:jy names L with
   | none=>rw [ha,hb] at h1;cases h1
   | some lv'=>rw [Ql hp ha hb]
theorem Nz {n:Str} {lv:Str→Nat}:∀ {names:List Str},n∉names→ofL n (names.map fun n=>(n,((lv n:Nat):Int)))=-1
 | [],_=>rfl
 | x::l,h=>by
   rw [List.map_cons,ofL,if_neg (fun e=>h (List.mem_cons.2 (.inl e.symm)))];exact Nz fun hm=>h (List.mem_cons.2 (.inr hm))
theorem of_same {names:List Str} {L:List Eg} {lv:Str→Nat} {n:Str} (hlv:jy names L=some lv) (hn:n∈names) :
  (if (0:Int)>ofL n ((qX L).map fun n=>(n,((lv n:Nat):Int))) then 0 else ofL n ((qX L).map fun n=>(n,((lv n:Nat):Int))))=ofL n (names.map fun n=>(n,((lv n:Nat):Int))):=by
 rw [KG hn];by_cases h:n∈qX L
 ·rw [KG h,if_neg (by omega)]
 ·rw [Nz h,if_pos (by omega)];have:lv n=0:=Qk hlv fun e he e'=>h (e' ▸ (En e he).1)
  rw [this];rfl
def tu {α:Type} (f:α→D) (z:D) (l:List α) (i:Nat):List D:=(l.take i).map f++List.replicate (l.length-i) z
theorem Vl {α:Type} {f:α→D} {z:D} {l:List α} {i:Nat} (h:i≤l.length):(tu f z l i).length=l.length:=by simp [tu];omega
theorem Vk {α:Type} {f:α→D} {z:D} {l:List α} {i:Nat} (h:i<l.length):(tu f z l i).set i (f l[i])=tu f z l (i+1):=by
 unfold tu;have hl:((l.take i).map f).length=i:=by simp;omega
 rw [List.set_append_right _ _ (by omega),hl,Nat.sub_self,show l.length-i=(l.length-(i+1))+1 by omega,List.replicate_succ,List.set_cons_zero,List.take_succ_eq_append_getElem h,List.map_append,List.append_assoc];rfl
theorem QL {α:Type} (f:α→D) (z:D) (l:List α):tu f z l l.length=l.map f:=by simp [tu]
theorem QK {α:Type} (f:α→D) (z:D) (l:List α):tu f z l 0=List.replicate l.length z:=by simp [tu]
theorem MC {atoms:List Tm} {rules:List Gr} (hv:bH atoms rules=true):∀ t∈atoms,t.name≠dist:=fun t ht=>by
 obtain ⟨i,hi,rfl⟩:=List.getElem_of_mem ht;unfold bH je at hv;simp only [Bool.and_eq_true] at hv;have:=lS.1 hv.1.1.2 i hi;rw [pW hi,Bool.and_eq_true] at this;have h:=this.1;unfold pV at h;simp only [Bool.and_eq_true,Bool.not_eq_true',beq_eq_false_iff_ne] at h;exact h.2
theorem Rt {E:List Eg} {e:Eg} (h:E.Nodup):(dH E e).Nodup:=by
 unfold dH;cases hb:E.any fun x=>decide (x=e) with
 | true=>exact h
 | false=>
   have hn:e∉E:=fun hm=>by
    have:E.any (fun x=>decide (x=e))=true:=List.any_eq_true.2 ⟨e,hm,by simp⟩;rw [this] at hb;cases hb
   rw [List.nodup_append];exact ⟨h,by simp,fun a ha b hb=>by simp at hb;subst hb;exact fun e'=>hn (e' ▸ ha)⟩
theorem JD {atoms:List Tm} {r:Gr} {E:List Eg} (h:E.Nodup):∀ k,(egR atoms r E k).Nodup
 | 0=>by simpa [egR] using h
 | k+1=>by rw [lX];exact Rt (JD h k)
theorem JB {atoms:List Tm}:∀ {rules:List Gr} {E:List Eg},E.Nodup→(iJ atoms rules E).Nodup
 | [],E,h=>h
 | r::l,E,h=>by
   show (iJ atoms l (egR atoms r E (szR r))).Nodup;exact JB (JD h _)
theorem Py {E:List Eg} {e:Eg} (h:e∈E):dH E e=E:=by
 unfold dH;rw [show (E.any fun x=>decide (x=e))=true from List.any_eq_true.2 ⟨e,h,by simp⟩]
theorem Pz {E:List Eg} {e:Eg} (h:e∉E):dH E e=E++[e]:=by
 unfold dH
 rw [show (E.any fun x=>decide (x=e))=false from Bool.eq_false_iff.2 fun hb=>by
  obtain ⟨x,hx,e'⟩:=List.any_eq_true.1 hb
  rw [of_decide_eq_true e'] at hx;exact h hx]
theorem Yc {atoms:List Tm} {r:Gr} {k:Nat} (h:k<r.2.1.length):jD atoms r k=(nameAt atoms r.1,nameAt atoms r.2.1[k],false):=by
 unfold jD;rw [decide_eq_true h,List.getElem?_eq_getElem h];rfl
theorem Yd {atoms:List Tm} {r:Gr} {k:Nat} (h:k<r.2.2.length):jD atoms r (r.2.1.length+k)=(nameAt atoms r.1,nameAt atoms r.2.2[k],true):=by
 unfold jD;rw [decide_eq_false (by omega),show r.2.1.length+k-r.2.1.length=k by omega,List.getElem?_eq_getElem h];rfl
set_option maxRecDepth 10000 in
theorem Tryz.YT (atoms:List Tm) (rules:List Gr) (hok:∀ x∈atoms,okT x) (hv:bH atoms rules=true) (hn:atoms.length≤64) (hr:rules.length≤128) (hf:∀ r∈rules,r.2.1.length+r.2.2.length≤16) :
  Pure Tryz.prog 75 [gD atoms rules] (strD atoms (nmS atoms) (iJ atoms rules [])):=by
 have hin:=kZ hv;have hnm:=MC hv;refine Pure.of_wp hT (nt:=_) (c:=_) Tryz.func75 rfl rfl rfl rfl (by kernel_rfl) ?_;intro w0 ok0 β0;repeat (refine gw rfl ?_;conv=>whnf)
 refine WP.loop (α:=Nat) (fun i=>⟨[(1,.d (.ref [.list (atoms.map enT),.list (rules.map enG)] 0)),(5,.ptr 5 0),(6,.func (.func 112) [] [.d (.ref [.list (atoms.map enT),.list (rules.map enG)] 0),.ptr 4 0,.ptr 5 0]),(20,.d (.list (rules.map enG))),(21,.d (.int .i64 rules.length)),(22,.d (.int .i64 i))],[((4,0),some (.cell (.map 17))),((17,0),some (.map (mpE (iJ atoms (rules.take i) [])))),((5,0),some (.cell (.sl 18 3 0 (iJ atoms (rules.take i) []).length))),((18,0),some (.arr 3 ((iJ atoms (rules.take i) []).map enR)))],[4,17,5,18]⟩)
  (fun i=>i≤rules.length∧(iJ atoms (rules.take i) []).length≤16*i) (fun i=>rules.length-i) 0 [(4,some 4),(17,some 17),(5,some 5),(18,none)] [] ?_ ?_ ?_
 ·rw [List.length_map];((conv=>whnf);repeat (first | exact ⟨⟩ | (refine ⟨by first | rfl | (simp;done) | (simp;omega),?_⟩;conv=>whnf)))
 ·exact ⟨Nat.zero_le _,Nat.zero_le _⟩
 ·rintro i ⟨hi,hEl⟩;repeat (refine gw rfl ?_;conv=>whnf)
  (split<;>rename_i hb<;>(try rw [hb])<;>(conv=>whnf))
  ·have hlt:i<rules.length:=(by simpa using hb);clear hb;have hm:=hin.head rules[i] (List.getElem_mem hlt);have hbd:=hin.body rules[i] (List.getElem_mem hlt);have hfi:=hf rules[i] (List.getElem_mem hlt);generalize hE0:iJ atoms (rules.take i) []=E0 at hEl;(repeat (refine gw rfl ?_;conv=>whnf));refine ⟨by omega,_,Oh hlt,rfl,?_⟩;(conv=>whnf);(repeat (refine gw rfl ?_;conv=>whnf));refine WP.loop (α:=Nat) (fun k=>⟨[(1,.d (.ref [.list (atoms.map enT),.list (rules.map enG)] 0)),(5,.ptr 5 0),(6,.func (.func 112) [] [.d (.ref [.list (atoms.map enT),.list (rules.map enG)] 0),.ptr 4 0,.ptr 5 0]),(20,.d (.list (rules.map enG))),(21,.d (.int .i64 rules.length)),(22,.d (.int .i64 i)),(8,.ptr 8 0),(27,.d (.list (rules[i].2.1.map enI))),(28,.d (.int .i64 rules[i].2.1.length)),(29,.d (.int .i64 k))],[((4,0),some (.cell (.map 17))),((17,0),some (.map (mpE (egR atoms rules[i] E0 k)))),((5,0),some (.cell (.sl 18 3 0 (egR atoms rules[i] E0 k).length))),((18,0),some (.arr 3 ((egR atoms rules[i] E0 k).map enR))),((8,0),some (.cell (.d (.int .i64 rules[i].1)))),((8,1),some (.cell (.d (.list (rules[i].2.1.map enI))))),((8,2),some (.cell (.d (.list (rules[i].2.2.map enI)))))],[4,17,5,18,8]⟩)
    (fun k=>k≤rules[i].2.1.length∧(egR atoms rules[i] E0 k).length≤E0.length+k) (fun k=>rules[i].2.1.length-k) 0 [(4,some 4),(17,some 17),(5,some 5),(18,some 18),(8,some 8)] [] ?_ ?_ ?_
   ·rw [List.length_map];((conv=>whnf);repeat (first | exact ⟨⟩ | (refine ⟨by first | rfl | (simp;done) | (simp;omega),?_⟩;conv=>whnf)))
   ·exact ⟨Nat.zero_le _,Nat.le_refl _⟩
   ·rintro k ⟨hk,hEk⟩;(repeat (refine gw rfl ?_;conv=>whnf));(split<;>rename_i hb<;>(try rw [hb])<;>(conv=>whnf))
    ·have hlk:k<rules[i].2.1.length:=(by simpa using hb);clear hb;(repeat (refine gw rfl ?_;conv=>whnf));refine ⟨by omega,_,aN hlk,rfl,?_⟩;(conv=>whnf);(repeat (refine gw rfl ?_;conv=>whnf));have hyr:=hbd.1 rules[i].2.1[k] (List.getElem_mem hlk);have hyl:rules[i].2.1[k].toNat<atoms.length:=(by omega);have hsc:=lX atoms rules[i] E0 k;rw [Yc hlk] at hsc;generalize hE1:egR atoms rules[i] E0 k=E1 at hEk hsc ⊢;by_cases hmem:(nameAt atoms rules[i].1,nameAt atoms rules[i].2.1[k],false)∈E1
     ·rw [Py hmem] at hsc;refine .inr ⟨_,_,_,_,_,_,Tryz.YI atoms rules E1 rules[i].1 rules[i].2.1[k] false (by omega) (by omega) (by omega) hyl hmem,[(4,4),(17,17),(5,5),(18,18)],[],rfl,rfl,?_⟩;(conv=>whnf);refine ⟨rfl,rfl,rfl,rfl,?_⟩;(conv=>whnf);(repeat (refine gw rfl ?_;conv=>whnf));refine ⟨by omega,?_⟩;(conv=>whnf);refine ⟨k+1,[(4,some 4),(17,some 17),(5,some 5),(18,some 18),(8,some 8)],[],?_,⟨by omega,by rw [hsc];omega⟩,by omega⟩;rw [hsc];((conv=>whnf);repeat (first | exact ⟨⟩ | (refine ⟨by first | rfl | (simp;done) | (simp;omega),?_⟩;conv=>whnf)))
     ·rw [Pz hmem] at hsc;refine .inr ⟨_,_,_,_,_,_,Tryz.YK atoms rules E1 rules[i].1 rules[i].2.1[k] false (by omega) (by omega) (by omega) hyl hmem (by omega),[(4,4),(17,17),(5,5),(18,18),(42,37)],[37],rfl,rfl,?_⟩;(conv=>whnf);refine ⟨rfl,rfl,rfl,rfl,?_⟩;(conv=>whnf);(repeat (refine gw rfl ?_;conv=>whnf));refine ⟨by omega,?_⟩;(conv=>whnf);have hll:(E1++[(nameAt atoms rules[i].1,nameAt atoms rules[i].2.1[k],false)]).length=E1.length+1:=(by simp);refine ⟨k+1,[(4,some 4),(17,some 17),(5,some 5),(18,some 37),(8,some 8)],[],?_,⟨by omega,by rw [hsc,hll];omega⟩,by omega⟩;rw [hsc,hll];((conv=>whnf);repeat (first | exact ⟨⟩ | (refine ⟨by first | rfl | (simp;done) | (simp;omega),?_⟩;conv=>whnf)))
    ·have hke:k=rules[i].2.1.length:=(by simp at hb;omega);subst hke;clear hb;(repeat (refine gw rfl ?_;conv=>whnf));refine WP.loop (α:=Nat) (fun k=>⟨[(1,.d (.ref [.list (atoms.map enT),.list (rules.map enG)] 0)),(5,.ptr 5 0),(6,.func (.func 112) [] [.d (.ref [.list (atoms.map enT),.list (rules.map enG)] 0),.ptr 4 0,.ptr 5 0]),(20,.d (.list (rules.map enG))),(21,.d (.int .i64 rules.length)),(22,.d (.int .i64 i)),(8,.ptr 8 0),(40,.d (.list (rules[i].2.2.map enI))),(41,.d (.int .i64 rules[i].2.2.length)),(42,.d (.int .i64 k))],[((4,0),some (.cell (.map 17))),((17,0),some (.map (mpE (egR atoms rules[i] E0 (rules[i].2.1.length+k))))),((5,0),some (.cell (.sl 18 3 0 (egR atoms rules[i] E0 (rules[i].2.1.length+k)).length))),((18,0),some (.arr 3 ((egR atoms rules[i] E0 (rules[i].2.1.length+k)).map enR))),((8,0),some (.cell (.d (.int .i64 rules[i].1)))),((8,1),some (.cell (.d (.list (rules[i].2.1.map enI))))),((8,2),some (.cell (.d (.list (rules[i].2.2.map enI)))))],[4,17,5,18,8]⟩)
      (fun k=>k≤rules[i].2.2.length∧(egR atoms rules[i] E0 (rules[i].2.1.length+k)).length≤E0.length+rules[i].2.1.length+k) (fun k=>rules[i].2.2.length-k) 0 [(4,some 4),(17,some 17),(5,some 5),(18,some 18),(8,some 8)] [] ?_ ?_ ?_
     ·rw [List.length_map];((conv=>whnf);repeat (first | exact ⟨⟩ | (refine ⟨by first | rfl | (simp;done) | (simp;omega),?_⟩;conv=>whnf)))
     ·exact ⟨Nat.zero_le _,hEk⟩
     ·rintro k ⟨hk,hEk⟩;(repeat (refine gw rfl ?_;conv=>whnf));(split<;>rename_i hb<;>(try rw [hb])<;>(conv=>whnf))
      ·have hlk:k<rules[i].2.2.length:=(by simpa using hb);clear hb;(repeat (refine gw rfl ?_;conv=>whnf));refine ⟨by omega,_,aN hlk,rfl,?_⟩;(conv=>whnf);(repeat (refine gw rfl ?_;conv=>whnf));have hyr:=hbd.2 rules[i].2.2[k] (List.getElem_mem hlk);have hyl:rules[i].2.2[k].toNat<atoms.length:=(by omega);have hsc:=lX atoms rules[i] E0 (rules[i].2.1.length+k);rw [Yd hlk] at hsc;generalize hE1:egR atoms rules[i] E0 (rules[i].2.1.length+k)=E1 at hEk hsc ⊢;by_cases hmem:(nameAt atoms rules[i].1,nameAt atoms rules[i].2.2[k],true)∈E1
       ·rw [Py hmem] at hsc;refine .inr ⟨_,_,_,_,_,_,Tryz.YI atoms rules E1 rules[i].1 rules[i].2.2[k] true (by omega) (by omega) (by omega) hyl hmem,[(4,4),(17,17),(5,5),(18,18)],[],rfl,rfl,?_⟩;(conv=>whnf);refine ⟨rfl,rfl,rfl,rfl,?_⟩;(conv=>whnf);(repeat (refine gw rfl ?_;conv=>whnf));refine ⟨by omega,?_⟩;(conv=>whnf);refine ⟨k+1,[(4,some 4),(17,some 17),(5,some 5),(18,some 18),(8,some 8)],[],?_,⟨by omega,by rw [show rules[i].2.1.length+(k+1)=rules[i].2.1.length+k+1 by omega,hsc];omega⟩,by omega⟩;rw [show rules[i].2.1.length+(k+1)=rules[i].2.1.length+k+1 by omega,hsc];((conv=>whnf);repeat (first | exact ⟨⟩ | (refine ⟨by first | rfl | (simp;done) | (simp;omega),?_⟩;conv=>whnf)))
       ·rw [Pz hmem] at hsc;refine .inr ⟨_,_,_,_,_,_,Tryz.YK atoms rules E1 rules[i].1 rules[i].2.2[k] true (by omega) (by omega) (by omega) hyl hmem (by omega),[(4,4),(17,17),(5,5),(18,18),(42,50)],[50],rfl,rfl,?_⟩;(conv=>whnf);refine ⟨rfl,rfl,rfl,rfl,?_⟩;(conv=>whnf);(repeat (refine gw rfl ?_;conv=>whnf));refine ⟨by omega,?_⟩;(conv=>whnf);have hll:(E1++[(nameAt atoms rules[i].1,nameAt atoms rules[i].2.2[k],true)]).length=E1.length+1:=(by simp);refine ⟨k+1,[(4,some 4),(17,some 17),(5,some 5),(18,some 50),(8,some 8)],[],?_,⟨by omega,by rw [show rules[i].2.1.length+(k+1)=rules[i].2.1.length+k+1 by omega,hsc,hll];omega⟩,by omega⟩;rw [show rules[i].2.1.length+(k+1)=rules[i].2.1.length+k+1 by omega,hsc,hll];((conv=>whnf);repeat (first | exact ⟨⟩ | (refine ⟨by first | rfl | (simp;done) | (simp;omega),?_⟩;conv=>whnf)))
      ·have hke:k=rules[i].2.2.length:=(by simp at hb;omega);subst hke;clear hb;(repeat (refine gw rfl ?_;conv=>whnf));refine ⟨by omega,?_⟩;(conv=>whnf);have hsn:=JC (atoms:=atoms) (E:=[]) hlt;rw [hE0] at hsn;unfold szR at hsn;refine ⟨i+1,[(4,some 4),(17,some 17),(5,some 5),(18,some 18)],[],?_,⟨by omega,by rw [hsn];omega⟩,by omega⟩;rw [hsn];((conv=>whnf);repeat (first | exact ⟨⟩ | (refine ⟨by first | rfl | (simp;done) | (simp;omega),?_⟩;conv=>whnf)))
  ·have:i=rules.length:=(by simp at hb;omega);subst this;clear hb;rw [List.take_length] at hEl ⊢;have hnd:=JB (atoms:=atoms) (rules:=rules) (E:=[]) (by simp);have hie:=Ya hin;generalize iJ atoms rules []=L at hEl hnd hie ⊢;have hdist:∀ e∈L,e.1≠dist∧e.2.1≠dist:=fun e he=>by
    obtain ⟨h1,h2⟩:=hie e he;obtain ⟨t,ht,e1⟩:=Dk.1 h1;obtain ⟨u,hu,e2⟩:=Dk.1 h2;exact ⟨e1 ▸ hnm t ht,e2 ▸ hnm u hu⟩
   refine WP.weak (l':=⟨[(1,.d (.ref [.list (atoms.map enT),.list (rules.map enG)] 0)),(5,.ptr 5 0)],[((5,0),some (.cell (.d (.list (L.map enR)))))],[5]⟩) [(5,some 5)] [18] ?_ ?_
   ·((conv=>whnf);repeat (first | exact ⟨⟩ | (refine ⟨by first | rfl | (simp;done) | (simp;omega),?_⟩;conv=>whnf)));refine ⟨L.map enR,by rw [List.drop_zero];exact List.take_of_length_le (by simp),by simp,rfl,?_⟩;((conv=>whnf);repeat (first | exact ⟨⟩ | (refine ⟨by first | rfl | (simp;done) | (simp;omega),?_⟩;conv=>whnf)))
   (repeat (refine gw rfl ?_;conv=>whnf));refine .inl ⟨_,Tryz.levels L hdist hnd (by omega),.inl rfl,?_⟩;rw [Qm hie];unfold strD;cases hlv:jy (nmS atoms) L with
   | none=>
     dsimp only;(conv=>whnf);repeat (refine gw rfl ?_;conv=>whnf)
   | some lv=>
     dsimp only;(conv=>whnf);(repeat (refine gw rfl ?_;conv=>whnf));rw [List.length_map];refine ⟨⟨by omega,by omega,by omega,by show 8*_≤_;omega⟩,?_⟩;(conv=>whnf);refine ⟨rfl,?_⟩;(conv=>whnf);(repeat (refine gw rfl ?_;conv=>whnf));rw [Int.toNat_natCast];refine WP.loop (α:=Nat) (fun i=>⟨[(1,.d (.ref [.list (atoms.map enT),.list (rules.map enG)] 0)),(13,.d (.list (lvD (qX L) lv))),(15,.sl 64 1 0 atoms.length),(66,.d (.int .i64 atoms.length)),(67,.d (.int .i64 i))],[((64,0),some (.arr 1 (tu (fun t:Tm=>D.int .i64 (ofL t.name ((nmS atoms).map fun n=>(n,((lv n:Nat):Int))))) (.int .i64 0) atoms i)))],[64]⟩)
      (fun i=>i≤atoms.length) (fun i=>atoms.length-i) 0 [(64,some 64)] [] ?_ ?_ ?_
     ·rw [QK];((conv=>whnf);repeat (first | exact ⟨⟩ | (refine ⟨by first | rfl | (simp;done) | (simp;omega),?_⟩;conv=>whnf)))
     ·exact Nat.zero_le _
     ·intro i hi;(repeat (refine gw rfl ?_;conv=>whnf));(split<;>rename_i hb<;>(try rw [hb])<;>(conv=>whnf))
      ·have hlt:i<atoms.length:=(by simpa using hb);clear hb;have hof:=Tryz.ofP ((qX L).map fun n=>(n,((lv n:Nat):Int))) atoms[i].name (by rw [List.length_map];have:=Nj L;omega);rw [← KQ] at hof;have hsm:=of_same hlv (Dk.2 ⟨atoms[i],List.getElem_mem hlt,rfl⟩:atoms[i].name∈nmS atoms);(repeat (refine gw rfl ?_;conv=>whnf));refine ⟨by omega,_,kD hlt,rfl,?_⟩;(conv=>whnf);refine .inl ⟨_,hof,.inl rfl,?_⟩;(conv=>whnf);rw [hsm];refine ⟨by omega,?_⟩;rw [Int.toNat_natCast];(conv=>whnf);refine ⟨rfl,_,by rw [Nat.zero_add];exact List.getElem?_eq_getElem (by rw [Vl (by omega)];exact hlt),?_⟩;(conv=>whnf);refine .inl ⟨rfl,rfl,?_⟩;rw [Nat.zero_add,show List.set (tu (fun t:Tm=>D.int .i64 (ofL t.name ((nmS atoms).map fun n=>(n,((lv n:Nat):Int))))) (.int .i64 0) atoms i) i _=_ from Vk (f:=(fun t:Tm=>D.int .i64 (ofL t.name ((nmS atoms).map fun n=>(n,((lv n:Nat):Int)))))) hlt];(conv=>whnf);(repeat (refine gw rfl ?_;conv=>whnf));refine ⟨by omega,?_⟩;(conv=>whnf);refine ⟨i+1,[(64,some 64)],[],?_,by omega,by omega⟩;((conv=>whnf);repeat (first | exact ⟨⟩ | (refine ⟨by first | rfl | (simp;done) | (simp;omega),?_⟩;conv=>whnf)))
      ·have:i=atoms.length:=(by simp at hb;omega);subst this;clear hb;rw [QL];(repeat (refine gw rfl ?_;conv=>whnf));refine ⟨atoms.map (fun t:Tm=>D.int .i64 (ofL t.name ((nmS atoms).map fun n=>(n,((lv n:Nat):Int))))),by rw [List.drop_zero];exact List.take_of_length_le (by simp),by simp,?_⟩;conv=>whnf
theorem Tryz.YU (atoms:List Tm) (rules:List Gr) (hok:∀ x∈atoms,okT x) (hv:bH atoms rules=true) (hn:atoms.length≤64) (hr:rules.length≤128) (hf:∀ r∈rules,r.2.1.length+r.2.2.length≤16) :
  Pure Tryz.prog 31 [gD atoms rules] (strD atoms (nmS atoms) (iJ atoms rules [])):=by
 have hfit:Lm rules:=fun r h=>by have:=hf r h;omega
 have hs:=Tryz.YT atoms rules hok hv hn hr hf;unfold strD at hs ⊢;refine Pure.of_wp hT (nt:=_) (c:=_) Tryz.func31 rfl rfl rfl rfl (by kernel_rfl) ?_;intro w0 ok0 β0;repeat (refine gw rfl ?_;conv=>whnf)
 refine .inl ⟨_,Tryz.JZ atoms rules hok hfit,.inl rfl,?_⟩;rw [hv];conv=>whnf
 repeat (refine gw rfl ?_;conv=>whnf)
 cases hlv:jy (nmS atoms) (iJ atoms rules []) with
 | none=>
   rw [hlv] at hs;dsimp only at hs;refine .inl ⟨_,hs,.inl rfl,?_⟩;(conv=>whnf);repeat (refine gw rfl ?_;conv=>whnf)
 | some lv=>
   rw [hlv] at hs;dsimp only at hs;refine .inl ⟨_,hs,.inl rfl,?_⟩;(conv=>whnf);repeat (refine gw rfl ?_;conv=>whnf)
theorem PU:Hl:=fun atoms rules hok hn hr hf hv=>by
 have h1:=Tryz.YU atoms rules hok hv (by omega) (by omega) (fun r h=>by have:=hf r h;omega);have h2:=Tryz.VP atoms rules hok hv (by omega) (by omega) (fun r h=>by have:=hf r h;omega);unfold strD at h1 h2;cases hlv:jy (nmS atoms) (iJ atoms rules []) with
 | none=>rw [hlv] at h1 h2;exact ⟨10,_,_,h1,h2⟩
 | some lv=>rw [hlv] at h1 h2;exact ⟨0,_,_,h1,h2⟩
end Go.Proofs.YtdonenoiehdahaaGreat
namespace Go.Proofs.YtdonenoiehdahaaGreat
open Go Go.RowKit Go.ChangeShapes Go.WideShapes
theorem YH {a:Addr} (h:a.spot=none) (n:Nat):a.add n=⟨a.block,a.off+n,none⟩:=by
 obtain ⟨b,o,s⟩:=a;have hs:s=none:=h;subst hs;exact Addr.add_lit _ _ _
theorem UH {w:World} {a:Addr} {v:Value} (h:w.cell? (a.add 0)=some v):a.spot=none∧a.block<w.heap.size:=by
 have e:a.add 0=a:=by simp [Addr.add]
 rw [e] at h;unfold World.cell? at h;cases hh:w.heap[a.block]? with
 | none=>rw [hh] at h;cases h
 | some ob=>
   rw [hh] at h;refine ⟨?_,(Array.getElem?_eq_some_iff.1 hh).1⟩;cases ob with
   | cells c t f=>
     cases hs:a.spot with
     | none=>rfl
     | some _=>simp [hs] at h
   | _=>cases h
theorem Ky {W:World} {a:Addr} {len cap sz:Nat} {xs:List Abs.D} (hxl:xs.length=len) (hl:len≤cap) (hm:cap≤maxLen) (hsz:0<sz) (h0:0<cap→∃ v,W.cell? (a.add 0)=some v)
  (hx:∀ (i:Nat) x,xs[i]?=some x→(Abs.D.cells x).length=sz∧∀ (j:Nat) c,(Abs.D.cells x)[j]?=some c→∃ u,W.cell? (a.add (i*sz+j))=some u∧u.oneCell'=true∧Abs.D.one c=true∧Abs.RdD (fun b=>b<W.heap.size) W u c) :
  Abs.RdD (fun b=>b<W.heap.size) W (.slice (some a) len cap) (.list xs):=by
 subst hxl;rcases Nat.eq_zero_or_pos cap with hz | hz
 ·subst hz;have:xs=[]:=List.length_eq_zero_iff.1 (by omega);subst this;exact .kS _
 ·obtain ⟨v,hv⟩:=h0 hz;obtain ⟨hs,hb⟩:=UH hv;have hu:∀ (i:Nat) x (j:Nat) c,xs[i]?=some x→(Abs.D.cells x)[j]?=some c→∃ u,W.cell? ⟨a.block,a.off+(i*sz+j),none⟩=some u∧u.oneCell'=true∧Abs.D.one c=true∧Abs.RdD (fun b=>b<W.heap.size) W u c:=fun i x j c h hc=>by
   obtain ⟨_,h2⟩:=hx i x h;obtain ⟨u,h3,h4⟩:=h2 j c hc;rw [YH hs] at h3;exact ⟨u,h3,h4⟩
  refine .lst a cap sz xs (fun i j=>(W.cell? ⟨a.block,a.off+(i*sz+j),none⟩).getD undef) hb hs hl hm hsz (fun i x h=>(hx i x h).1) (fun i x j c h hc=>?_) (fun i x j c h hc=>?_)
  ·obtain ⟨u,h1,h2,h3,_⟩:=hu i x j c h hc;rw [h1];exact ⟨rfl,h2,h3⟩
  ·obtain ⟨u,h1,_,_,h4⟩:=hu i x j c h hc;rw [h1];exact h4
section
open Go.Abs Go.Own
variable {H:Type} {enc:TypeId×Value→H} {W:World} {held:Bool}
theorem abN {ok:Nat→Prop} {W:World} {s:ByteArray} (h:s.size≤maxLen):RdD ok W (.string s) (.str s.data.toList):=by
 have:(Value.string s) = .string ⟨s.data.toList.toArray⟩:=by simp
 rw [this];exact .str _ (by simpa using h)
def ad1 (W:World) (t:Tm) (v0 v1:Value):Prop:=v0.oneCell'=true∧v1.oneCell'=true∧RdD (fun b=>b<W.heap.size) W v0 (.str t.name)∧RdD (fun b=>b<W.heap.size) W v1 (.list (t.args.map enT))
set_option maxRecDepth 100000 in
theorem P7 {n:Nat} {cs:List Value} {x:DataW H×List MemPlace} (h:DataW.trod enc Tryz.prog W 0 (fun _=>true) held n 22 cs=some x)
  (IH:∀ (n:Nat) (cs:List Value) (y:DataW H×List MemPlace),SizeOf.sizeOf y.1<SizeOf.sizeOf x.1→DataW.trod enc Tryz.prog W 0 (fun _=>true) held n 52 cs=some y→∃ (t:Tm) (v0 v1:Value),cs=[v0,v1]∧ad1 W t v0 v1∧okT t) :
  ∃ (v:Value) (l:List Tm),cs=[v]∧v.oneCell'=true∧RdD (fun b=>b<W.heap.size) W v (.list (l.map enT))∧(∀ t∈l,okT t)∧l.length≤maxLen∧(l=[]∨∃ ds sp,x.1 = .slice ds sp∧l.length=ds.length):=by
 have k2:Tryz.prog.cellsOf 52=2:=by kernel_rfl
 rcases Deep.open_slice Tryz.underlying22 h with ⟨rfl,rfl⟩ | ⟨a,len,cap,m,n',DD,Pl,rfl,_,hl,hm,hmm,hx,hel⟩
 ·exact ⟨_,[],rfl,rfl,.kS _,(fun _ h=>by cases h),by simp,.inl rfl⟩
 simp only [if_true] at hmm;subst hmm;rw [k2] at hel
 haveI:Inhabited Tm:=⟨.mk [] []⟩
 obtain ⟨y,hy⟩:=Deep.choose_lt (α:=Tm) (n:=len) (p:=fun i t=>(∃ v0 v1,W.cell? (a.add (i*2+0))=some v0∧W.cell? (a.add (i*2+1))=some v1∧ad1 W t v0 v1)∧okT t) (fun i hi=>by
  obtain ⟨cs',h1,h2⟩:=hel i (by omega)
  obtain ⟨t,v0,v1,rfl,ht,hok⟩:=IH _ _ _ (by
   rw [hx];have hmem:DD i∈(List.range len).map DD:=List.mem_map.2 ⟨i,List.mem_range.2 hi,rfl⟩;have:=List.sizeOf_lt_of_mem hmem;simp only [DataW.slice.sizeOf_spec]
   omega) h2
  obtain ⟨_,_,h3⟩:=World.cells?_some h1;have e0:=h3 0 (by omega);have e1:=h3 1 (by omega);rw [Deep.add_add] at e0 e1
  exact ⟨t,⟨v0,v1,by simpa using e0,by simpa using e1,ht⟩,hok⟩)
 refine ⟨_,(List.range len).map y,rfl,rfl,?_,fun t ht=>?_,by simp;omega,.inr ⟨_,_,congrArg Prod.fst hx,by simp⟩⟩
 ·refine Ky (sz:=2) (by simp) hl hm (by decide) (fun hc=>?_) fun i x hi=>?_
  ·obtain ⟨cs',h1,_⟩:=hel 0 hc;obtain ⟨_,hlen,h3⟩:=World.cells?_some h1;have:=h3 0 (by omega);rw [Deep.add_add,Nat.zero_mul] at this;rw [this];exact ⟨_,List.getElem?_eq_getElem (by omega)⟩
  ·simp only [List.map_map,List.getElem?_map,Option.map_eq_some_iff] at hi;obtain ⟨r,hri,rfl⟩:=hi;have hi:i<len:=(by have:=(List.getElem?_eq_some_iff.1 hri).1;simpa using this);obtain rfl:r=i:=by rw [List.getElem?_range hi] at hri;exact (Option.some.inj hri).symm
   obtain ⟨⟨v0,v1,c0,c1,o0,o1,r0,r1⟩,_⟩:=hy r hi;rw [show (enT ∘ y) r=tD (y r).name (y r).args from QY _];refine ⟨rfl,fun j c hc=>?_⟩;have hc:[D.str (y r).name,D.list ((y r).args.map enT)][j]?=some c:=hc
   match j,hc with
   | 0,hc=>obtain rfl:=Option.some.inj hc;exact ⟨v0,c0,o0,rfl,r0⟩
   | 1,hc=>obtain rfl:=Option.some.inj hc;exact ⟨v1,c1,o1,rfl,r1⟩
   | j+2,hc=>simp at hc
 ·obtain ⟨r,hr,rfl⟩:=List.mem_map.1 ht;exact (hy r (List.mem_range.1 hr)).2
set_option maxRecDepth 100000 in
theorem Wj:∀ (N n:Nat) (cs:List Value) (x:DataW H×List MemPlace),SizeOf.sizeOf x.1<N→DataW.trod enc Tryz.prog W 0 (fun _=>true) held n 52 cs=some x→∃ (t:Tm) (v0 v1:Value),cs=[v0,v1]∧ad1 W t v0 v1∧okT t
 | 0,_,_,_,hN,_=>by omega
 | N+1,n,cs,x,hN,h=>by
   have k1:Tryz.prog.cellsOf 9=1:=(by kernel_rfl);have k1':Tryz.prog.cellsOf 22=1:=(by kernel_rfl);have k2:Tryz.prog.cellsOf 52=2:=(by kernel_rfl);obtain ⟨y0,y1,m,hx,hl,h0,h1⟩:=trod_struct2 Tryz.underlying52 h;rw [k2] at hl
   match cs,hl with
   | [c0,c1],_=>
     simp only [k1,k1',List.drop,List.take] at h0 h1;obtain ⟨s,e0,_,hs⟩:=DataW.trod_string Tryz.underlying9 h0;cases e0;have hsz:SizeOf.sizeOf y1.1<N:=by
      rw [hx] at hN;simp at hN;omega
     obtain ⟨v,l,e1,o1,r1,hok,hlen,_⟩:=P7 h1 (fun n' cs' y hy hh=>Wj N n' cs' y (by omega) hh);cases e1;exact ⟨.mk s.data.toList l,_,_,rfl,⟨rfl,o1,abN hs,r1⟩,nG.2 ⟨by simp only [Tm.args];simp only [maxLen] at hlen;omega,hok⟩⟩
theorem weightsAll_mem {P:Program} {e:TypeId} {d:DataW H} {w:Nat}:∀ {ds:List (DataW H)},d∈ds→w∈d.weights P e→w∈DataW.weightsAll P e ds
 | d'::ds,hm,hw=>by
   rw [DataW.weightsAll];rcases List.mem_cons.1 hm with rfl | hm
   ·exact List.mem_append_left _ hw
   ·exact List.mem_append_right _ (weightsAll_mem hm hw)
def Light (t:TypeId) (d:DataW H):Prop:=∀ w∈d.weights Tryz.prog t,w≤reachBytes
theorem Light.slice {t e:TypeId} {ds sp:List (DataW H)} (hu:Tryz.prog.underlying t=some (.slice e)) (h:Light t (.slice ds sp)):(ds.length+sp.length)*Tryz.prog.bytesOf e≤reachBytes∧∀ d∈ds,Light e d:=by
 unfold Light at h;rw [DataW.weights,hu] at h;exact ⟨h _ (List.mem_cons_self ..),fun d hd w hw=>h w (List.mem_cons_of_mem _ (List.mem_append_left _ (weightsAll_mem hd hw)))⟩
theorem Light.ahO {t:TypeId} {f0 f1:Field} {d0 d1:DataW H} (hu:Tryz.prog.underlying t=some (.struct #[f0,f1])) (h:Light t (.agg [d0,d1])):Light f0.type d0∧Light f1.type d1:=by
 unfold Light at h;rw [DataW.weights,hu] at h;simp only [List.map_cons,List.map_nil,DataW.weightsEach] at h;exact ⟨fun w hw=>h w (by simp [hw]),fun w hw=>h w (by simp [hw])⟩
theorem Light.ahN {t:TypeId} {f0 f1 f2:Field} {d0 d1 d2:DataW H} (hu:Tryz.prog.underlying t=some (.struct #[f0,f1,f2])) (h:Light t (.agg [d0,d1,d2])):Light f0.type d0∧Light f1.type d1∧Light f2.type d2:=by
 unfold Light at h;rw [DataW.weights,hu] at h;simp only [List.map_cons,List.map_nil,DataW.weightsEach] at h;exact ⟨fun w hw=>h w (by simp [hw]),fun w hw=>h w (by simp [hw]),fun w hw=>h w (by simp [hw])⟩
set_option maxRecDepth 100000 in
theorem RP {n:Nat} {cs:List Value} {x:DataW H×List MemPlace} (h:DataW.trod enc Tryz.prog W 0 (fun _=>true) held n 38 cs=some x) (hw:Light 38 x.1) :
  ∃ (v:Value) (l:List Int),cs=[v]∧v.oneCell'=true∧RdD (fun b=>b<W.heap.size) W v (.list (l.map enI))∧l.length≤reachBytes:=by
 have k1:Tryz.prog.cellsOf 3=1:=by kernel_rfl
 have b1:Tryz.prog.bytesOf 3=8:=by kernel_rfl
 rcases Deep.open_slice Tryz.underlying38 h with ⟨rfl,rfl⟩ | ⟨a,len,cap,m,n',DD,Pl,rfl,_,hl,hm,hmm,hx,hel⟩
 ·exact ⟨_,[],rfl,rfl,.kS _,by simp⟩
 simp only [if_true] at hmm;subst hmm;rw [k1] at hel
 obtain ⟨y,hy⟩:=Deep.choose_lt (α:=Int) (n:=len) (p:=fun i z=>W.cell? (a.add (i*1))=some (.int .i64 z)) (fun i hi=>by
  obtain ⟨cs',h1,h2⟩:=hel i (by omega);obtain ⟨z,rfl,_,_⟩:=DataW.trod_int Tryz.underlying3 h2;obtain ⟨_,_,h3⟩:=World.cells?_some h1;have e0:=h3 0 (by omega);rw [Deep.add_add] at e0
  exact ⟨z,by simpa using e0⟩)
 rw [hx] at hw;have hwl:=(Light.slice Tryz.underlying38 hw).1;rw [b1] at hwl;simp only [List.length_map,List.length_range] at hwl;refine ⟨_,(List.range len).map y,rfl,rfl,?_,by simp;omega⟩;refine Ky (sz:=1) (by simp) hl hm (by decide) (fun hc=>?_) fun i x hi=>?_
 ·obtain ⟨cs',h1,_⟩:=hel 0 hc;obtain ⟨_,hlen,h3⟩:=World.cells?_some h1;have:=h3 0 (by omega);rw [Deep.add_add,Nat.zero_mul] at this;rw [this];exact ⟨_,List.getElem?_eq_getElem (by omega)⟩
 ·simp only [List.map_map,List.getElem?_map,Option.map_eq_some_iff] at hi;obtain ⟨r,hri,rfl⟩:=hi;have hi:i<len:=by have:=(List.getElem?_eq_some_iff.1 hri).1;simpa using this
  obtain rfl:r=i:=by rw [List.getElem?_range hi] at hri;exact (Option.some.inj hri).symm
  refine ⟨rfl,fun j c hc=>?_⟩;have hc:[D.int .i64 (y r)][j]?=some c:=hc
  match j,hc with
  | 0,hc=>obtain rfl:=Option.some.inj hc;exact ⟨_,hy r hi,rfl,rfl,.int _ _⟩
  | j+1,hc=>simp at hc
def afW (W:World) (r:Gr) (v1 v2:Value):Prop:=v1.oneCell'=true∧v2.oneCell'=true∧RdD (fun b=>b<W.heap.size) W v1 (.list (r.2.1.map enI))∧RdD (fun b=>b<W.heap.size) W v2 (.list (r.2.2.map enI))
set_option maxRecDepth 100000 in
theorem Y7 {n:Nat} {cs:List Value} {x:DataW H×List MemPlace} (h:DataW.trod enc Tryz.prog W 0 (fun _=>true) held n 64 cs=some x) (hw:Light 64 x.1) :
  ∃ (r:Gr) (v1 v2:Value),cs=[.int .i64 r.1,v1,v2]∧afW W r v1 v2∧r.2.1.length≤reachBytes∧r.2.2.length≤reachBytes:=by
 have k1:Tryz.prog.cellsOf 3=1:=by kernel_rfl
 have k1':Tryz.prog.cellsOf 38=1:=by kernel_rfl
 have k3:Tryz.prog.cellsOf 64=3:=by kernel_rfl
 obtain ⟨y0,y1,y2,m,hx,hl,h0,h1,h2⟩:=Deep.trod_struct3 Tryz.underlying64 h;rw [k3] at hl;rw [hx] at hw;obtain ⟨_,w1,w2⟩:=Light.ahN Tryz.underlying64 hw
 match cs,hl with
 | [c0,c1,c2],_=>
   simp only [k1,k1',List.drop,List.take] at h0 h1 h2;obtain ⟨z,e0,_,_⟩:=DataW.trod_int Tryz.underlying3 h0;obtain ⟨v1,l1,e1,o1,r1,g1⟩:=RP h1 w1;obtain ⟨v2,l2,e2,o2,r2,g2⟩:=RP h2 w2;cases e0;cases e1;cases e2;exact ⟨(z,l1,l2),_,_,rfl,⟨o1,o2,r1,r2⟩,g1,g2⟩
set_option maxRecDepth 100000 in
theorem Wn {n:Nat} {cs:List Value} {x:DataW H×List MemPlace} (h:DataW.trod enc Tryz.prog W 0 (fun _=>true) held n 23 cs=some x) (hw:Light 23 x.1) :
  ∃ (v:Value) (l:List Gr),cs=[v]∧v.oneCell'=true∧RdD (fun b=>b<W.heap.size) W v (.list (l.map enG))∧l.length≤reachBytes∧∀ r∈l,r.2.1.length≤reachBytes∧r.2.2.length≤reachBytes:=by
 have k3:Tryz.prog.cellsOf 64=3:=by kernel_rfl
 have b3:Tryz.prog.bytesOf 64=56:=by kernel_rfl
 rcases Deep.open_slice Tryz.underlying23 h with ⟨rfl,rfl⟩ | ⟨a,len,cap,m,n',DD,Pl,rfl,_,hl,hm,hmm,hx,hel⟩
 ·exact ⟨_,[],rfl,rfl,.kS _,by simp,fun _ h=>by cases h⟩
 simp only [if_true] at hmm;subst hmm;rw [k3] at hel;rw [hx] at hw;obtain ⟨hwl,hwe⟩:=Light.slice Tryz.underlying23 hw;rw [b3] at hwl;simp only [List.length_map,List.length_range] at hwl
 obtain ⟨y,hy⟩:=Deep.choose_lt (α:=Gr) (n:=len) (p:=fun i r=>(∃ v1 v2,W.cell? (a.add (i*3+0))=some (.int .i64 r.1)∧W.cell? (a.add (i*3+1))=some v1∧W.cell? (a.add (i*3+2))=some v2∧afW W r v1 v2)∧r.2.1.length≤reachBytes∧r.2.2.length≤reachBytes) (fun i hi=>by
  obtain ⟨cs',h1,h2⟩:=hel i (by omega);obtain ⟨r,v1,v2,rfl,hr,g1,g2⟩:=Y7 h2 (hwe _ (List.mem_map.2 ⟨i,List.mem_range.2 hi,rfl⟩));obtain ⟨_,_,h3⟩:=World.cells?_some h1;have e0:=h3 0 (by omega);have e1:=h3 1 (by omega);have e2:=h3 2 (by omega);rw [Deep.add_add] at e0 e1 e2
  exact ⟨r,⟨v1,v2,by simpa using e0,by simpa using e1,by simpa using e2,hr⟩,g1,g2⟩)
 refine ⟨_,(List.range len).map y,rfl,rfl,?_,by simp;omega,fun r hr=>?_⟩
 ·refine Ky (sz:=3) (by simp) hl hm (by decide) (fun hc=>?_) fun i x hi=>?_
  ·obtain ⟨cs',h1,_⟩:=hel 0 hc;obtain ⟨_,hlen,h3⟩:=World.cells?_some h1;have:=h3 0 (by omega);rw [Deep.add_add,Nat.zero_mul] at this;rw [this];exact ⟨_,List.getElem?_eq_getElem (by omega)⟩
  ·simp only [List.map_map,List.getElem?_map,Option.map_eq_some_iff] at hi;obtain ⟨r,hri,rfl⟩:=hi;have hi:i<len:=(by have:=(List.getElem?_eq_some_iff.1 hri).1;simpa using this);obtain rfl:r=i:=by rw [List.getElem?_range hi] at hri;exact (Option.some.inj hri).symm
   obtain ⟨⟨v1,v2,c0,c1,c2,o1,o2,r1,r2⟩,_⟩:=hy r hi;refine ⟨rfl,fun j c hc=>?_⟩;have hc:[D.int .i64 (y r).1,D.list ((y r).2.1.map enI),D.list ((y r).2.2.map enI)][j]?=some c:=hc
   match j,hc with
   | 0,hc=>obtain rfl:=Option.some.inj hc;exact ⟨_,c0,rfl,rfl,.int _ _⟩
   | 1,hc=>obtain rfl:=Option.some.inj hc;exact ⟨v1,c1,o1,rfl,r1⟩
   | 2,hc=>obtain rfl:=Option.some.inj hc;exact ⟨v2,c2,o2,rfl,r2⟩
   | j+3,hc=>simp at hc
 ·obtain ⟨q,hq,rfl⟩:=List.mem_map.1 hr;exact (hy q (List.mem_range.1 hq)).2
set_option maxRecDepth 100000 in
theorem UR {r:Reach} {b0:Nat} {v:Value} {d:DataW H} {p:List MemPlace} (hval:Value.okWide Tryz.prog W r b0 25 v) (h:DataW.Trod enc Tryz.prog W 0 (fun _=>true) held 25 v d p) (hw:Light 25 d) :
  ∃ (atoms:List Tm) (rules:List Gr),RdD (fun b=>b<W.heap.size) W v (gD atoms rules)∧(∀ x∈atoms,okT x)∧atoms.length≤reachBytes∧rules.length≤reachBytes∧∀ r∈rules,r.2.1.length≤reachBytes∧r.2.2.length≤reachBytes:=by
 have k1:Tryz.prog.cellsOf 22=1:=by kernel_rfl
 have k1':Tryz.prog.cellsOf 23=1:=by kernel_rfl
 have k2:Tryz.prog.cellsOf 25=2:=by kernel_rfl
 have b2:Tryz.prog.bytesOf 52=40:=by kernel_rfl
 obtain ⟨vs,rfl,hsz⟩:=okWide_struct Tryz.underlying25 hval;obtain ⟨fuel,h⟩:=h;obtain ⟨y0,y1,m,hx,hl,h0,h1⟩:=trod_struct2 Tryz.underlying25 h;rw [k2] at hsz;obtain ⟨c0,c1,rfl⟩:∃ c0 c1,vs=#[c0,c1]:=by
  match vs,hsz with
  | ⟨[c0,c1]⟩,_=>exact ⟨c0,c1,rfl⟩
 have h0:DataW.trod enc Tryz.prog W 0 (fun _=>true) held m 22 [c0]=some y0:=by
  rw [k1] at h0;exact h0
 have h1:DataW.trod enc Tryz.prog W 0 (fun _=>true) held m 23 [c1]=some y1:=by
  rw [k1'] at h1;exact h1
 have hd:d = .agg [y0.1,y1.1]:=congrArg Prod.fst hx;subst hd;obtain ⟨w0,w1⟩:=Light.ahO Tryz.underlying25 hw;obtain ⟨va,la,ea,oa,ra,hok,_,hsl⟩:=P7 h0 (fun n' cs' y _ hh=>Wj _ n' cs' y (Nat.lt_succ_self _) hh);obtain ⟨vr,lr,er,orr,rr,g1,g2⟩:=Wn h1 w1;cases ea;cases er;refine ⟨la,lr,?_,hok,?_,g1,g2⟩
 ·refine .agg _ _ rfl (fun i v c hv hc=>?_) (fun i v c hv hc=>?_)
  ·match i,hv,hc with
   | 0,hv,hc=>cases hv;cases hc;exact ra
   | 1,hv,hc=>cases hv;cases hc;exact rr
   | i+2,hv,hc=>simp at hc
  ·match i,hv,hc with
   | 0,hv,hc=>cases hv;cases hc;exact ⟨oa,rfl⟩
   | 1,hv,hc=>cases hv;cases hc;exact ⟨orr,rfl⟩
   | i+2,hv,hc=>simp at hc
 ·rcases hsl with rfl | ⟨ds,sp,hy,hlen⟩
  ·simp
  ·rw [hy] at w0;have:=(Light.slice Tryz.underlying22 w0).1;rw [b2] at this;omega
set_option maxRecDepth 100000 in
theorem Wq {r:Reach} {b0:Nat} {v:Value} {d:DataW H} {p:List MemPlace} (hval:Value.okWide Tryz.prog W r b0 22 v) (h:DataW.Trod enc Tryz.prog W 0 (fun _=>true) held 22 v d p) (hw:Light 22 d) :
  ∃ names:List Tm,RdD (fun b=>b<W.heap.size) W v (.list (names.map enT))∧(∀ x∈names,okT x)∧names.length≤reachBytes:=by
 have b2:Tryz.prog.bytesOf 52=40:=by kernel_rfl
 obtain ⟨a,len,cap,rfl⟩:=okWide_slice Tryz.underlying22 hval;obtain ⟨fuel,h⟩:=h;obtain ⟨va,la,ea,oa,ra,hok,_,hsl⟩:=P7 (x:=(d,p)) h (fun n' cs' y _ hh=>Wj _ n' cs' y (Nat.lt_succ_self _) hh);have ev:Value.slice a len cap=va:=by simpa [Value.cells] using ea
 subst ev;refine ⟨la,ra,hok,?_⟩;rcases hsl with rfl | ⟨ds,sp,hy,hlen⟩
 ·simp
 ·have hy:d = .slice ds sp:=hy;rw [hy] at hw;have:=(Light.slice Tryz.underlying22 hw).1;rw [b2] at this;omega
end
end Go.Proofs.YtdonenoiehdahaaGreat
