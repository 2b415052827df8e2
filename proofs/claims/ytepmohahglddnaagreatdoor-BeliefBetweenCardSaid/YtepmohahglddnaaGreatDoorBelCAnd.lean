/- Walks: what a belief's lists are asked. -/
import Derived.Test.YtepmohahglddnaaGreatDoorBelAOne
import Derived.Test.YtepmohahglddnaaGreatDoorOwnCOne
import Derived.Shelf.Slices.Clone
import Derived.Ground.Names2Prog
import Derived.Deep.Matrix
import Derived.Deep.DeepHandedRow
import Derived.Lib.LaidTab
import Derived.Test.YtepmohahglddnaaGreatDoorCards
import Derived.Test.YtepmohahglddnaaGreatDoorTie
import Derived.WalkKit
import Derived.ProofKit
import Derived.OpenShut
set_option linter.unusedVariables false
set_option linter.unusedSimpArgs false
set_option linter.all false
namespace Go.Proofs
open Go.Shelf
def Tryz.cloI_ren:Go.Shelf.Ren:=⟨fun | 15=>30 | n=>n,fun | 22=>34 | 3=>3 | 4=>4 | n=>n,fun | n=>n⟩
theorem Tryz.cloI:Go.Proofs.Lays2.n15 Tryz.prog Tryz.cloI_ren:={
 mixed:=by kernel_rfl
 f15:=Tryz.func30.trans (congrArg some (by kernel_rfl))
 t3:=Tryz.underlying3
 a3:=Tryz.isAgg3
 z3:=Tryz.sizeOf3
 v3:=Tryz.zeroValue3
 t4:=Tryz.underlying4
 a4:=Tryz.isAgg4
 z4:=Tryz.sizeOf4
 v4:=Tryz.zeroValue4
 t22:=Tryz.underlying34
 a22:=Tryz.isAgg34
 z22:=Tryz.sizeOf34
 v22:=Tryz.zeroValue34
 i3:=by kernel_rfl }
end Go.Proofs
namespace Go.Proofs.YtepmohahglddnaaGreatDoor
open Go Go.Abs Go.Own Go.RowKit
attribute [local irreducible] WP
def enW (w:Wt):D := .agg [enL w.1,.int .i64 w.2.1,.int .i64 w.2.2]
def aeM (id sz:Nat) (s:List D):V:=match s with | [] => .aj | _::_ => .sl id sz 0 s.length
def aeO (id sz:Nat) (s:List D):List (Key×Option Res):=match s with | []=>[] | _::_=>[((id,0),some (.arr sz s))]
def aeN (id:Nat) (s:List D):List Nat:=match s with | []=>[] | _::_=>[id]
theorem Oz {α:Type} {f:α→D} {a:List α} {i:Nat} (h0:1≤i) (h:i≤a.length):(a.map f)[((i:Int)-1).toNat]?=some (f (a[i-1]'(by omega))):=by
 have:((i:Int)-1).toNat=i-1:=by omega
 rw [this];simp [show i-1<a.length by omega]
theorem Ie {α β:Type} (f:α→β) {b:List α} {i:Nat} (h:i<b.length):(b.take (i+1)).map f=(b.take i).map f++[f b[i]]:=by
 rw [List.take_succ_eq_append_getElem h,List.map_append];rfl
theorem Tryz.clone (l:List Int) (hl:l.length≤1000000):Pure Tryz.prog 30 [.list (l.map enI)] [.list (l.map enI)]:=by
 refine ⟨⟨_,Tryz.func30,by kernel_rfl,rfl⟩,fun ok w vs hgl hokb hsz hrd=>?_⟩
 obtain ⟨v0,rfl⟩:∃ v0,vs=#[v0]:=by
  have h3:vs.size=1:=hsz
  exact ⟨vs[0],by apply Array.ext (by simpa using h3);intro i h1 h2;match i,h2 with | 0,_=>rfl⟩
 have h0:=hrd 0 v0 _ rfl rfl
 have hfr:∀ {w':World},Below w.heap.size w w'→Abs.Frame (fun _ _=>False) w w':=fun {w'} hb=>
  ⟨hb.os,hb.tape,hb.output,hb.size,fun b hb' _=>hb.block b hb',fun b c T fz hbc=>⟨c,(hb.block b (Array.getElem?_eq_some_iff.1 hbc).1).trans hbc,rfl,fun _ _=>rfl⟩⟩
 have hout:∀ {w':World} {v':Value},w'.ownsRow w.heap.size 3 1 v' l.length (l.map (Value.int .i64))→RdD (fun b=>ok b∨(w.heap.size≤b∧b<w'.heap.size)) w' v' (.list (l.map enI)):=by
  rintro w' v' ⟨_,⟨rfl,h2⟩ | ⟨g,cap,cur,rfl,h1,h2,h3,h4,h5,h6⟩⟩
  ·obtain rfl:l=[]:=List.length_eq_zero_iff.1 h2
   exact .jZ _
  ·have hc:∀ (i:Nat) y,l[i]?=some y→w'.cell? ⟨g,0+(i*1+0),none⟩=some (.int .i64 y):=fun i y hy=>by
    have hi:=(List.getElem?_eq_some_iff.1 hy).1
    rw [cell_of_row w' g _ cur _ (0,0) h2]
    have:(cur.toList.take (l.length*1))[i]?=some (.int .i64 y):=by rw [h6,List.getElem?_map,hy];rfl
    rw [List.getElem?_take_of_lt (by omega)] at this
    simpa using this
   have e:l.length=(l.map enI).length:=by simp
   rw [e]
   refine .lst ⟨g,0,none⟩ cap 1 (l.map enI) (fun i _ => .int .i64 (l.getD i 0)) (.inr ⟨h1,(Array.getElem?_eq_some_iff.1 h2).1⟩) rfl (by simpa using h3) h4 (by decide) (fun i x hx=>?_) (fun i x j c hx hcc=>?_) (fun i x j c hx hcc=>?_)
   ·simp only [List.getElem?_map,Option.map_eq_some_iff] at hx
    obtain ⟨y,_,rfl⟩:=hx;rfl
   all_goals
    simp only [List.getElem?_map,Option.map_eq_some_iff] at hx
    obtain ⟨y,hy,rfl⟩:=hx
    have hg:l.getD i 0=y:=by simp [List.getD,hy]
    cases j with
    | succ j=>simp [enI,D.cells] at hcc
    | zero=>
      simp [enI,D.cells] at hcc
      subst hcc
      first
       | (rw [hg];exact .int _ _)
       | (rw [hg];exact ⟨hc i y hy,rfl,rfl⟩)
 generalize hx:l.map enI=xs at h0
 cases h0 with
 | jZ a=>
   obtain rfl:l=[]:=by simpa using hx
   cases a with
   | none=>
     refine (Any.slices_Clone_int_nil Tryz.cloI 0 0 w).mono ?_
     rintro e w' ⟨rfl,rfl⟩
     exact ⟨_,rfl,Abs.Frame.refl _ _,.jZ _⟩
   | some a=>
     refine (Any.slices_Clone_int_zero Tryz.cloI a 0 w).mono ?_
     rintro e w' ⟨v',rfl,ho,_,hb⟩
     exact ⟨_,rfl,hfr hb,hout ho⟩
 | lst a cap sz _ us h1 h2 h3 h4 h5 h6 h7 h8=>
   subst hx
   obtain ⟨b,o,s⟩:=a
   have hs:s=none:=h2
   subst hs
   have hcell:∀ j,j<l.length→w.cell? ⟨b,o+j,none⟩=some (.int .i64 (l.getD j 0)):=fun j hj=>by
    have hx:(l.map enI)[j]?=some (enI l[j]):=by simp [hj]
    have e1:sz=1:=(h6 j _ hx).symm
    subst e1
    have hv:=(h7 j _ 0 (enI l[j]) hx rfl).1
    have hr:=h8 j _ 0 (enI l[j]) hx rfl
    have:us j 0 = .int .i64 l[j]:=by generalize us j 0=u at hr;cases hr;rfl
    rw [this] at hv
    have e2:l.getD j 0=l[j]:=by simp [List.getD,hj]
    rw [e2,← hv];simp
   rw [List.length_map]
   refine (Any.slices_Clone_int Tryz.cloI b o l.length cap l w (Nat.le_refl _) (by omega) hcell).mono ?_
   rintro e w' ⟨v',rfl,ho,_,hb⟩
   rw [List.take_length] at ho
   exact ⟨_,rfl,hfr hb,hout ho⟩
theorem Tryz.states (b:List Wt) (hl:b.length*24≤140737488355328):Pure Tryz.prog 5 [.list (b.map enW)] [.list ((b.map (·.1)).map enL)]:=by
 have h24:(T 34).bytes=24:=rfl
 refine Pure.of_wp hT (nt:=_) (c:=_) Tryz.func5 rfl rfl rfl rfl (by kernel_rfl) ?_
 intro w0 ok0 β0
 repeat first | refine W1 ?_ | refine W3 ?_ | ((first | refine W2 hT hM [] ?_ | refine W4 ?_ | refine W5 ?_ | refine W6 ?_ | refine W7 ?_ rfl);conv=>whnf)
 refine WP.loop (α:=Nat×List D) (fun x=>⟨[(0,.d (.list (b.map enW))),(3,aeM 3 1 x.2),(4,.d (.int .i64 x.1))],aeO 3 1 x.2,aeN 3 x.2⟩)
  (fun x=>x.1≤b.length∧x.2=(b.take x.1).map fun w=>enL w.1) (fun x=>b.length-x.1) (0,[]) [] [] ?_ ?_ ?_
 ·((conv=>whnf);repeat (first | exact True.intro | (refine And.intro (by first | rfl | exact ⟨rfl,rfl,rfl⟩ | exact ⟨rfl,rfl,by simp⟩ | exact ⟨rfl,rfl⟩ | exact ⟨rfl,by simp⟩ | (simp;done) | (simp;omega)) ?_;conv=>whnf)))
 ·simp
 ·rintro ⟨i,s⟩ ⟨hi,hs⟩
  simp only at hi hs
  repeat first | refine W1 ?_ | refine W3 ?_ | ((first | refine W2 hT hM [] ?_ | refine W4 ?_ | refine W5 ?_ | refine W6 ?_ | refine W7 ?_ rfl);conv=>whnf)
  (split<;>rename_i hb<;>(try rw [hb])<;>(conv=>whnf))
  ·have hlt:i<b.length:=by simpa using hb
   clear hb
   have hnx:=Ie (fun w:Wt=>enL w.1) hlt
   rw [← hs] at hnx
   have hsl:s.length+1≤b.length:=by rw [hs];simp;omega
   repeat first | refine W1 ?_ | refine W3 ?_ | ((first | refine W2 hT hM [] ?_ | refine W4 ?_ | refine W5 ?_ | refine W6 ?_ | refine W7 ?_ rfl);conv=>whnf)
   refine ⟨by omega,_,eF hlt,rfl,?_⟩
   conv=>whnf
   cases s with
   | nil=>
     conv=>whnf
     refine ⟨rfl,?_⟩
     conv=>whnf
     refine ⟨_,rfl,Nat.le_refl _,Nat.le_of_ble_eq_true rfl,?_⟩
     conv=>whnf
     repeat first | refine W1 ?_ | refine W3 ?_ | ((first | refine W2 hT hM [] ?_ | refine W4 ?_ | refine W5 ?_ | refine W6 ?_ | refine W7 ?_ rfl);conv=>whnf)
     refine ⟨by omega,?_⟩
     conv=>whnf
     refine ⟨(i+1,[enL b[i].1]),[(3,some 18)],[],?_,⟨by simp only;omega,hnx.symm⟩,by simp only;omega⟩
     ((conv=>whnf);repeat (first | exact True.intro | (refine And.intro (by first | rfl | exact ⟨rfl,rfl,rfl⟩ | exact ⟨rfl,rfl,by simp⟩ | exact ⟨rfl,rfl⟩ | exact ⟨rfl,by simp⟩ | (simp;done) | (simp;omega)) ?_;conv=>whnf)))
   | cons c u=>
     conv=>whnf
     refine ⟨rfl,?_⟩
     conv=>whnf
     refine ⟨c::u,by rw [List.drop_zero,List.take_of_length_le (Nat.le_refl _)],by simp,?_⟩
     conv=>whnf
     refine ⟨_,rfl,Nat.le_refl _,?_,?_⟩
     ·rw [h24]
      have h1:∀ x:D,(List.take [x].length (List.drop 0 [x])).length=1:=fun _=>rfl
      simp only [h1];omega
     conv=>whnf
     repeat first | refine W1 ?_ | refine W3 ?_ | ((first | refine W2 hT hM [] ?_ | refine W4 ?_ | refine W5 ?_ | refine W6 ?_ | refine W7 ?_ rfl);conv=>whnf)
     refine ⟨by omega,?_⟩
     conv=>whnf
     refine ⟨(i+1,(c::u)++[enL b[i].1]),[(3,some 18)],[],?_,⟨by simp only;omega,hnx.symm⟩,by simp only;omega⟩
     ((conv=>whnf);repeat (first | exact True.intro | (refine And.intro (by first | rfl | exact ⟨rfl,rfl,rfl⟩ | exact ⟨rfl,rfl,by simp⟩ | exact ⟨rfl,rfl⟩ | exact ⟨rfl,by simp⟩ | (simp;done) | (simp;omega)) ?_;conv=>whnf)))
  ·have hii:i=b.length:=by simp at hb;omega
   subst hii
   clear hb
   rw [List.take_length] at hs
   have hfin:((b.map (·.1)).map enL)=s:=by rw [hs,List.map_map];rfl
   rw [hfin]
   cases s with
   | nil=>repeat first | refine W1 ?_ | refine W3 ?_ | ((first | refine W2 hT hM [] ?_ | refine W4 ?_ | refine W5 ?_ | refine W6 ?_ | refine W7 ?_ rfl);conv=>whnf)
   | cons c u=>
     repeat first | refine W1 ?_ | refine W3 ?_ | ((first | refine W2 hT hM [] ?_ | refine W4 ?_ | refine W5 ?_ | refine W6 ?_ | refine W7 ?_ rfl);conv=>whnf)
     refine ⟨c::u,by rw [List.drop_zero,List.take_of_length_le (Nat.le_refl _)],by simp,?_⟩
     conv=>whnf
end Go.Proofs.YtepmohahglddnaaGreatDoor
namespace Go.Proofs.YtepmohahglddnaaGreatDoor
open Go Go.RowKit Go.ChangeShapes Go.WideShapes
theorem JU {a:Addr} (h:a.spot=none) (n:Nat):a.add n=⟨a.block,a.off+n,none⟩:=by
 obtain ⟨b,o,s⟩:=a
 have hs:s=none:=h
 subst hs
 exact Addr.add_lit _ _ _
theorem Dc {w:World} {a:Addr} {v:Value} (h:w.cell? (a.add 0)=some v):a.spot=none∧a.block<w.heap.size:=by
 have e:a.add 0=a:=by simp [Addr.add]
 rw [e] at h
 unfold World.cell? at h
 cases hh:w.heap[a.block]? with
 | none=>rw [hh] at h;cases h
 | some ob=>
   rw [hh] at h
   refine ⟨?_,(Array.getElem?_eq_some_iff.1 hh).1⟩
   cases ob with
   | cells c t f=>
     cases hs:a.spot with
     | none=>rfl
     | some _=>simp [hs] at h
   | _=>cases h
theorem aev {W:World} {a:Addr} {len cap:Nat} {xs:List Abs.D} (hxl:xs.length=len) (hl:len≤cap) (hm:cap≤maxLen) (h0:0<cap→∃ v,W.cell? (a.add 0)=some v)
  (hx:∀ i x,xs[i]?=some x→Abs.D.cells x=[x]∧Abs.D.one x=true∧∃ u,W.cell? (a.add i)=some u∧u.oneCell'=true∧Abs.RdD (fun b=>b<W.heap.size) W u x) :
  Abs.RdD (fun b=>b<W.heap.size) W (.slice (some a) len cap) (.list xs):=by
 subst hxl
 rcases Nat.eq_zero_or_pos cap with hz | hz
 ·subst hz
  have:xs=[]:=List.length_eq_zero_iff.1 (by omega)
  subst this
  exact .jZ _
 ·obtain ⟨v,hv⟩:=h0 hz
  obtain ⟨hs,hb⟩:=Dc hv
  have hu:∀ i x,xs[i]?=some x→∃ u,W.cell? ⟨a.block,a.off+i,none⟩=some u∧u.oneCell'=true∧Abs.RdD (fun b=>b<W.heap.size) W u x:=fun i x h=>by
   obtain ⟨_,_,u,h1,h2,h3⟩:=hx i x h
   rw [JU hs] at h1
   exact ⟨u,h1,h2,h3⟩
  refine .lst a cap 1 xs (fun i _=>(W.cell? ⟨a.block,a.off+i,none⟩).getD undef) hb hs hl hm (by decide) (fun i x h=>by rw [(hx i x h).1];rfl) (fun i x j c h hc=>?_) (fun i x j c h hc=>?_)
  ·obtain ⟨e1,e2,_⟩:=hx i x h
   rw [e1] at hc
   cases j with
   | zero=>
     simp at hc;subst hc
     obtain ⟨u,h1,h2,_⟩:=hu i x h
     rw [show a.off+(i*1+0)=a.off+i by omega,h1]
     exact ⟨rfl,h2,e2⟩
   | succ j=>simp at hc
  ·obtain ⟨e1,e2,_⟩:=hx i x h
   rw [e1] at hc
   cases j with
   | zero=>
     simp at hc;subst hc
     obtain ⟨u,h1,_,h3⟩:=hu i x h
     rw [h1];exact h3
   | succ j=>simp at hc
theorem ahc {W:World} {a:Addr} {len cap:Nat} {zs:List Int} (hl:len≤cap) (hm:cap≤maxLen) (hz:zs.length=cap) (hc:∀ i,i<cap→W.cell? (a.add i)=some (.int .i64 (zs.getD i 0))) :
  Abs.RdD (fun b=>b<W.heap.size) W (.slice (some a) len cap) (.list ((zs.take len).map enI)):=by
 refine aev (by simp;omega) hl hm (fun h=>⟨_,hc 0 h⟩) fun i x hx=>?_
 simp only [List.getElem?_map,Option.map_eq_some_iff] at hx
 obtain ⟨y,hy,rfl⟩:=hx
 have hi:i<len:=by have:=(List.getElem?_eq_some_iff.1 hy).1;simp at this;omega
 rw [List.getElem?_take_of_lt hi] at hy
 refine ⟨rfl,rfl,_,hc i (by omega),rfl,?_⟩
 have:zs.getD i 0=y:=by simp [List.getD,hy]
 rw [this];exact .int _ _
section
open Go.Abs Go.Own
variable {H:Type} {enc:TypeId×Value→H} {W:World} {held:Bool}
theorem FX {n:Int} (h:(Lit.int .i64 n).wf=true):I64 n:=by
 simp [Lit.wf,IntKind.min,IntKind.max,IntKind.bits,IntKind.signed] at h
 unfold I64;omega
set_option maxRecDepth 100000 in
theorem QM {n:Nat} {cs:List Value} {x:DataW H×List MemPlace} (h:DataW.trod enc Tryz.prog W 0 (fun _=>true) held n 36 cs=some x) :
  ∃ (v0:Value) (w:Wt),cs=[v0,.int .i64 w.2.1,.int .i64 w.2.2]∧v0.oneCell'=true∧RdD (fun b=>b<W.heap.size) W v0 (enL w.1)∧okI w.2:=by
 have k1:Tryz.prog.cellsOf 34=1:=by kernel_rfl
 have k2:Tryz.prog.cellsOf 29=2:=by kernel_rfl
 have k3:Tryz.prog.cellsOf 36=3:=by kernel_rfl
 have k4:Tryz.prog.cellsOf 3=1:=by kernel_rfl
 obtain ⟨y0,y1,m,_,hl,h0,h1⟩:=trod_struct2 Tryz.underlying36 h
 rw [k3] at hl
 match cs,hl with
 | [c0,c1,c2],_=>
   simp only [k1,k2,List.drop,List.take] at h0 h1
   obtain ⟨z0,z1,m',_,_,g0,g1⟩:=trod_struct2 Tryz.underlying29 h1
   simp only [k4,List.drop,List.take] at g0 g1
   obtain ⟨a,e1,_,w1⟩:=DataW.trod_int Tryz.underlying3 g0
   obtain ⟨d,e2,_,w2⟩:=DataW.trod_int Tryz.underlying3 g1
   cases e1;cases e2
   rcases open_ints Tryz.underlying34 Tryz.underlying3 k4 h0 with ⟨hcs,_⟩ | ⟨ad,len,cap,zs,hcs,_,hl,hm,hz,_,hc,_⟩
   ·cases hcs
    exact ⟨_,([],(a,d)),rfl,rfl,.jZ _,FX w1,FX w2⟩
   ·cases hcs
    simp only [if_true] at hz
    exact ⟨_,(zs.take len,(a,d)),rfl,rfl,ahc hl hm hz fun i hi=>hc i (by omega),FX w1,FX w2⟩
set_option maxRecDepth 100000 in
theorem aeu {r:Reach} {b0:Nat} {v:Value} {d:DataW H} {p:List MemPlace} (hval:Value.okWide Tryz.prog W r b0 22 v) (h:DataW.Trod enc Tryz.prog W 0 (fun _=>true) held 22 v d p) :
  ∃ b:List Wt,RdD (fun b=>b<W.heap.size) W v (.list (b.map enW))∧(∀ w∈b,okI w.2)∧(b=[]∨∃ elems spare,d = .slice elems spare∧elems.length=b.length):=by
 obtain ⟨a0,len0,cap0,rfl⟩:=okWide_slice Tryz.underlying22 hval
 obtain ⟨fuel,h⟩:=h
 have k3:Tryz.prog.cellsOf 36=3:=by kernel_rfl
 rcases Deep.open_slice Tryz.underlying22 h with ⟨hcs,_⟩ | ⟨a,len,cap,m,n,DD,Pl,hcs,_,hl,hm,hmm,hx,hel⟩
 ·obtain hcs:[Value.slice a0 len0 cap0]=_:=hcs
  cases hcs
  exact ⟨[],.jZ _,(fun _ h=>by cases h),.inl rfl⟩
 obtain hcs:[Value.slice a0 len0 cap0]=_:=hcs
 cases hcs
 simp only [if_true] at hmm
 subst hmm
 rw [k3] at hel
 obtain ⟨y,hy⟩:=Deep.choose_lt (α:=Wt) (p:=fun i w=>∃ v0,(∀ j,W.cell? (a.add (i*3+j))=[v0,.int .i64 w.2.1,.int .i64 w.2.2][j]?∨3≤j)∧v0.oneCell'=true∧RdD (fun b=>b<W.heap.size) W v0 (enL w.1)∧okI w.2) (fun i hi=>by
  obtain ⟨cs',h1,h2⟩:=hel i hi
  obtain ⟨v0,w,rfl,g1,g2,g3⟩:=QM h2
  obtain ⟨_,_,h3⟩:=World.cells?_some h1
  refine ⟨w,v0,fun j=>?_,g1,g2,g3⟩
  by_cases hj:j<3
  ·left
   have:=h3 j hj
   rwa [Deep.add_add] at this
  ·right;omega)
 have hlen:((List.range len0).map y).length=len0:=by simp
 refine ⟨(List.range len0).map y,?_,fun w hw=>?_,.inr ?_⟩
 ·rcases Nat.eq_zero_or_pos m with hz | hz
  ·subst hz
   obtain rfl:len0=0:=by omega
   exact .jZ _
  ·obtain ⟨v0,hc,_⟩:=hy 0 hz
   have hc0:W.cell? (a.add 0)=some v0:=by
    rcases hc 0 with h | h
    ·simpa using h
    ·omega
   obtain ⟨hs,hb⟩:=Dc hc0
   have e:len0=(((List.range len0).map y).map enW).length:=by simp
   suffices hgoal:RdD (fun b=>b<W.heap.size) W (.slice (some a) (((List.range len0).map y).map enW).length m) (.list (((List.range len0).map y).map enW)) by rwa [← e] at hgoal
   have hcell:∀ (i:Nat) x (j:Nat) c,(((List.range len0).map y).map enW)[i]?=some x→(D.cells x)[j]?=some c→∃ u,W.cell? ⟨a.block,a.off+(i*3+j),none⟩=some u∧u.oneCell'=true∧D.one c=true∧RdD (fun b=>b<W.heap.size) W u c:=fun i x j c hx hcx=>by
    simp only [List.map_map,List.getElem?_map,Option.map_eq_some_iff] at hx
    obtain ⟨r,hri,rfl⟩:=hx
    have hi:i<len0:=by have:=(List.getElem?_eq_some_iff.1 hri).1;simpa using this
    obtain rfl:r=i:=by rw [List.getElem?_range hi] at hri;exact (Option.some.inj hri).symm
    obtain ⟨v0,h3,g1,g2,g3⟩:=hy r (by omega)
    have h3:=h3 j
    rw [JU hs] at h3
    have hcs:(D.cells (enW (y r)))[j]?=[enL (y r).1,D.int .i64 (y r).2.1,D.int .i64 (y r).2.2][j]?:=rfl
    have hcx:[enL (y r).1,D.int .i64 (y r).2.1,D.int .i64 (y r).2.2][j]?=some c:=by rw [← hcs];exact hcx
    match j,hcx,h3 with
    | 0,hcx,h3=>
      have hcx:=Option.some.inj hcx;subst hcx
      exact ⟨v0,by rcases h3 with h | h;· exact h
                   ·omega,g1,rfl,g2⟩
    | 1,hcx,h3=>
      have hcx:=Option.some.inj hcx;subst hcx
      exact ⟨_,by rcases h3 with h | h;· exact h
                  ·omega,rfl,rfl,.int _ _⟩
    | 2,hcx,h3=>
      have hcx:=Option.some.inj hcx;subst hcx
      exact ⟨_,by rcases h3 with h | h;· exact h
                  ·omega,rfl,rfl,.int _ _⟩
    | j+3,hcx,_=>simp at hcx
   refine .lst a m 3 _ (fun i j=>(W.cell? ⟨a.block,a.off+(i*3+j),none⟩).getD undef) hb hs (by simpa using hl) hm (by decide) (fun i x hx=>?_) (fun i x j c hx hcx=>?_) (fun i x j c hx hcx=>?_)
   ·simp only [List.map_map,List.getElem?_map,Option.map_eq_some_iff] at hx
    obtain ⟨r,_,rfl⟩:=hx;rfl
   ·obtain ⟨u,h1,h2,h3,_⟩:=hcell i x j c hx hcx
    rw [h1];exact ⟨rfl,h2,h3⟩
   ·obtain ⟨u,h1,_,_,h4⟩:=hcell i x j c hx hcx
    rw [h1];exact h4
 ·obtain ⟨r,hr,rfl⟩:=List.mem_map.1 hw
  have:=List.mem_range.1 hr
  obtain ⟨_,_,_,_,g3⟩:=hy r (by omega)
  exact g3
 ·have:=congrArg Prod.fst hx
  exact ⟨_,_,this,by simp⟩
set_option maxRecDepth 100000 in
theorem aew {r:Reach} {b0:Nat} {v:Value} {d:DataW H} {p:List MemPlace} (hval:Value.okWide Tryz.prog W r b0 3 v) (h:DataW.Trod enc Tryz.prog W 0 (fun _=>true) held 3 v d p):∃ n:Int,v = .int .i64 n:=by
 obtain ⟨n,h1,_⟩:=open_int Tryz.underlying3 hval h
 exact ⟨n,h1⟩
end
end Go.Proofs.YtepmohahglddnaaGreatDoor
namespace Go.Proofs.YtepmohahglddnaaGreatDoor
open Go Go.RowKit Go.ChangeShapes Go.WideShapes
theorem yI {P:Program} {w:World}:∀ {l:List (String×DataW Unit)} {ps:List MemPlace},DataW.LaidVars P w l ps→∀ n d,(n,d)∈l →
  ∃ g t cs fuel p,P.globalNamed n=some g∧(P.globals[g]?).map (·.type)=some t∧w.var? P n=some cs∧DataW.trod (fun _=>()) P w 0 (fun _=>true) false fuel t cs.toList=some (d,p)
 | [],_,_,n,d,hm=>by cases hm
 | (n',d')::r,ps,h,n,d,hm=>by
   obtain ⟨g,t,cs,fuel,p,q,h1,h2,h3,h4,h5,_⟩:=h
   rcases List.mem_cons.1 hm with he | hm
   ·cases he;exact ⟨g,t,cs,fuel,p,h1,h2,h3,h4⟩
   ·exact yI h5 n d hm
theorem vg {P:Program} {w:World} {n:String} {g:Nat} {cs:Array Value} (hg:P.globalNamed n=some g) (h:w.var? P n=some cs):∃ t fz,w.heap[g]?=some (.cells cs t fz):=by
 unfold World.var? at h
 rw [hg,Option.bind_some] at h
 split at h
 ·rename_i cs' t' fz' hw
  cases h
  exact ⟨_,_,hw⟩
 ·cases h
def dV:Abs.D→Value
 | .bool b => .bool b
 | .int k n => .int k n
 | .str s => .string ⟨s.toArray⟩
 | _ => .nilIface
def dOk:Abs.D→Bool
 | .bool _ | .int _ _=>true
 | .str s=>decide (s.length≤maxLen)
 | _=>false
theorem Vz {ok:Nat→Prop} {w:World} {d:Abs.D} (h:dOk d=true):Abs.RdD ok w (dV d) d∧(dV d).oneCell'=true∧Abs.D.one d=true:=by
 cases d<;>simp [dOk] at h
 ·exact ⟨.bool _,rfl,rfl⟩
 ·exact ⟨.int _ _,rfl,rfl⟩
 ·exact ⟨.str _ h,rfl,rfl⟩
theorem ai3 {ok:Nat→Prop} {w:World} {d:Abs.D} {v:Value} (h:dOk d=true) (hr:Abs.RdD ok w v d):v=dV d:=by
 cases d<;>simp [dOk] at h<;>cases hr<;>rfl
theorem mQ {w:World} {g:Nat} {cur:Array Value} {t:TypeId} {fz:Nat×Nat} {ds:List Abs.D} (h:w.heap[g]?=some (.cells cur t fz)) (hc:cur.toList=ds.map dV) (hf:ds.all dOk=true) :
  Abs.RdD (fun b=>b<w.heap.size) w (.pointer (some ⟨g,0,none⟩)) (.ref ds 0):=by
 have hcell:∀ (j:Nat) c,ds[j]?=some c→w.cell? ⟨g,0+j,none⟩=some (dV c)∧dOk c=true:=fun j c hj=>by
  rw [cell_of_row w g _ cur t fz h]
  refine ⟨?_,List.all_eq_true.1 hf c (List.mem_of_getElem? hj)⟩
  have:cur.toList[j]?=some (dV c):=by rw [hc,List.getElem?_map,hj];rfl
  simpa using this
 refine .ref g 0 0 ds (fun j=>(w.cell? ⟨g,0+j,none⟩).getD undef) (Array.getElem?_eq_some_iff.1 h).1 (fun j c hj=>?_) fun j c hj=>?_
 ·obtain ⟨h1,h2⟩:=hcell j c hj
  rw [h1];exact ⟨rfl,(Vz (ok:=fun _=>True) (w:=w) h2).2⟩
 ·obtain ⟨h1,h2⟩:=hcell j c hj
  rw [h1];exact (Vz h2).1
theorem GV {ok:Nat→Prop} {w:World} {g:Nat} {ds:List Abs.D} (h:Abs.RdD ok w (.pointer (some ⟨g,0,none⟩)) (.ref ds 0)) (hf:ds.all dOk=true) (hne:ds≠[]) :
  ∃ cur t fz,w.heap[g]?=some (.cells cur t fz)∧ds.length≤cur.size∧∀ i,i<(ds.map dV).length→cur[i]?=(ds.map dV)[i]?:=by
 generalize hp:Value.pointer (some ⟨g,0,none⟩)=pv at h
 cases h with
 | ref b o off _ us hb h1 h2=>
   simp only [Value.pointer.injEq,Option.some.injEq,Addr.mk.injEq,and_true] at hp
   obtain ⟨rfl,ho⟩:=hp
   obtain rfl:o=0:=by omega
   have hcell:∀ (j:Nat) c,ds[j]?=some c→w.cell? ⟨g,j,none⟩=some (dV c):=fun j c hj=>by
    have e:=(h1 j c hj).1
    rw [Nat.zero_add] at e
    rw [e,ai3 (List.all_eq_true.1 hf c (List.mem_of_getElem? hj)) (h2 j c hj)]
   have h0:∃ c,ds[0]?=some c:=by
    cases ds with
    | nil=>exact absurd rfl hne
    | cons c l=>exact ⟨c,rfl⟩
   obtain ⟨c0,hc0⟩:=h0
   have hc:=hcell 0 c0 hc0
   unfold World.cell? at hc
   cases hh:w.heap[g]? with
   | none=>rw [hh] at hc;cases hc
   | some ob=>
     cases ob with
     | cells cur t fz=>
       have hi:∀ i,i<(ds.map dV).length→cur[i]?=(ds.map dV)[i]?:=fun i hi=>by
        have hi':i<ds.length:=by simpa using hi
        have:=hcell i ds[i] (List.getElem?_eq_getElem hi')
        rw [cell_of_row w g _ cur t fz hh] at this
        rw [this,List.getElem?_map,List.getElem?_eq_getElem hi'];rfl
       refine ⟨cur,t,fz,rfl,?_,hi⟩
       have hlast:ds.length-1<ds.length:=by cases ds with
        | nil=>exact absurd rfl hne
        | cons c l=>simp
       have h2:=hi (ds.length-1) (by simpa using hlast)
       rw [List.getElem?_eq_getElem (by simpa using hlast)] at h2
       have:=(Array.getElem?_eq_some_iff.1 h2).1
       omega
     | _=>rw [hh] at hc;cases hc
section
variable {H:Type} {enc:TypeId×Value→H}
set_option maxRecDepth 100000 in
theorem Aw {w:World} {base:Nat} {sp:Nat→Bool} {held:Bool} {fuel:Nat} {cs:List Value} {p:List MemPlace} {a d:Int}
  (h:DataW.trod enc Tryz.prog w base sp held fuel 29 cs=some (.agg [.lit (.int .i64 a),.lit (.int .i64 d)],p)):cs=[Abs.D.int .i64 a,Abs.D.int .i64 d].map dV:=by
 have k2:Tryz.prog.cellsOf 29=2:=by kernel_rfl
 have k4:Tryz.prog.cellsOf 3=1:=by kernel_rfl
 obtain ⟨z0,z1,m',hx,hl,g0,g1⟩:=trod_struct2 Tryz.underlying29 h
 rw [k2] at hl
 match cs,hl with
 | [c0,c1],_=>
   simp only [k4,List.drop,List.take] at g0 g1
   obtain ⟨a',e1,f1,w1⟩:=DataW.trod_int Tryz.underlying3 g0
   obtain ⟨d',e2,f2,w2⟩:=DataW.trod_int Tryz.underlying3 g1
   cases e1;cases e2;subst f1;subst f2
   cases hx
   rfl
end
end Go.Proofs.YtepmohahglddnaaGreatDoor
namespace Go.Proofs.YtepmohahglddnaaGreatDoor
open Go Go.RowKit
def Q8:Lit→Value
 | .bool b => .bool b
 | .int k n => .int k n
 | .string s => .string ⟨s.toArray⟩
 | .float k b => .float k b
 | .nil => .nilIface
def Oj {H:Type} (d:DataW H):List Value:=match d with
 | .agg [.lit a,.lit b,.lit c,.lit e]=>[Q8 a,Q8 b,Q8 c,Q8 e]
 | _=>[]
def FP:List Value:=match (Rows.laid_gameplayer_check_keywords:DataW Unit) with
 | .agg ds=>ds.flatMap Oj
 | _=>[]
set_option maxRecDepth 100000 in
theorem QI {H:Type} {enc:TypeId×Value→H} {w:World} {base:Nat} {sp:Nat→Bool} {held:Bool} {fuel:Nat} {cs:List Value} {x:DataW H×List MemPlace}
  (h:DataW.trod enc Tryz.prog w base sp held fuel 281 cs=some x):cs=Oj x.1∧cs.length=4:=by
 obtain ⟨xs,n,_,rfl,hl,hlen,hf⟩:=DataW.trod_struct Tryz.underlying281 h
 have hl:cs.length=4:=hl.trans (by kernel_rfl)
 match xs,hlen,cs,hl with
 | [y0,y1,y2,y3],_,[c0,c1,c2,c3],_=>
   have f0:=hf 0 _ rfl
   have f1:=hf 1 _ rfl
   have f2:=hf 2 _ rfl
   have f3:=hf 3 _ rfl
   have k9:Tryz.prog.cellsOf 9=1:=by kernel_rfl
   have k3:Tryz.prog.cellsOf 3=1:=by kernel_rfl
   have k4:Tryz.prog.cellsOf 4=1:=by kernel_rfl
   simp only [k9,k3,k4,List.drop,List.take,List.getElem?_cons_zero,List.getElem?_cons_succ] at f0 f1 f2 f3
   obtain ⟨s,e0,rfl,_⟩:=DataW.trod_string Tryz.underlying9 f0
   obtain ⟨m,e1,rfl,_⟩:=DataW.trod_int Tryz.underlying3 f1
   obtain ⟨b,e2,rfl⟩:=DataW.trod_bool Tryz.underlying4 f2
   obtain ⟨b',e3,rfl⟩:=DataW.trod_bool Tryz.underlying4 f3
   cases e0;cases e1;cases e2;cases e3
   exact ⟨by simp [Oj,Q8],rfl⟩
theorem Eb {n:Nat}:∀ (m:Nat) (cs:List Value) (rs:List (List Value)),cs.length=m*n→rs.length=m→(∀ i,i<m→rs[i]?=some ((cs.drop (i*n)).take n))→cs=rs.flatten
 | 0,cs,rs,hl,hr,_=>by
   obtain rfl:cs=[]:=by simpa using hl
   obtain rfl:rs=[]:=by simpa using hr
   rfl
 | m+1,cs,r::rs,hl,hr,h=>by
   have h0:=h 0 (by omega)
   simp at h0
   subst h0
   have:=Eb (n:=n) m (cs.drop n) rs (by rw [List.length_drop,hl,Nat.add_mul];omega) (by simpa using hr) fun i hi=>by
    have:=h (i+1) (by omega)
    rw [List.getElem?_cons_succ] at this
    rw [this,List.drop_drop,Nat.add_mul,Nat.one_mul,Nat.add_comm]
   rw [List.flatten_cons,← this,List.take_append_drop]
 | m+1,cs,[],_,hr,_=>by cases hr
set_option maxRecDepth 100000 in
theorem QB {H:Type} {enc:TypeId×Value→H} {w:World} {base:Nat} {sp:Nat→Bool} {held:Bool} {fuel:Nat} {cs:List Value} {p:List MemPlace}
  {ds:List (DataW H)} (h:DataW.trod enc Tryz.prog w base sp held fuel 331 cs=some (.agg ds,p)):cs=ds.flatMap Oj∧cs.length=40:=by
 obtain ⟨xs,n,_,hx,hl,hlen,hf⟩:=DataW.trod_array Tryz.underlying331 h
 have k:Tryz.prog.cellsOf 281=4:=by kernel_rfl
 have hl:cs.length=40:=hl.trans (by kernel_rfl)
 rw [k] at hf
 cases hx
 refine ⟨?_,hl⟩
 rw [List.flatMap_def,List.map_map]
 refine Eb (n:=4) 10 cs _ hl (by simpa using hlen) fun i hi=>?_
 have h1:=hf i hi
 rw [List.getElem?_map]
 obtain ⟨y,hy⟩:∃ y,xs[i]?=some y:=⟨_,List.getElem?_eq_getElem (by omega)⟩
 rw [hy] at h1 ⊢
 exact congrArg some (QI h1).1.symm
theorem kw_same:FP=Abs.kwD.map dV:=by kernel_rfl
theorem kw_ok:Abs.kwD.all dOk=true:=by kernel_rfl
set_option maxRecDepth 100000 in
theorem gok {w:World} (h:laidMetH Tryz.prog Rows.beliefBetweenRow.laid w):Abs.GOK (fun b=>b<w.heap.size) w:=by
 have h:laidMet Tryz.prog Rows.beliefBetweenRow.laid w:=h
 obtain ⟨ps,hv,_⟩:=h
 intro g hg
 cases h1:Nat.beq g 0 with
 | true=>
   obtain rfl:=Nat.eq_of_beq_eq_true h1
   obtain ⟨g',t,cs,fuel,p,q1,q2,q3,q4⟩:=yI hv "gameplayer/belief.one" (.agg [.lit (.int .i64 1),.lit (.int .i64 1)]) (by unfold Rows.beliefBetweenRow;repeat (first | exact List.Mem.head _ | apply List.Mem.tail))
   have e1:Tryz.prog.globalNamed "gameplayer/belief.one" = some 0:=by kernel_rfl
   have e2:(Tryz.prog.globals[0]?).map (·.type)=some 29:=by kernel_rfl
   obtain rfl:=Option.some.inj (e1.symm.trans q1)
   obtain rfl:=Option.some.inj (e2.symm.trans q2)
   obtain ⟨t',fz,hw⟩:=vg q1 q3
   exact mQ hw (Aw q4) (by decide)
 | false=>
 cases h2:Nat.beq g 1 with
 | true=>
   obtain rfl:=Nat.eq_of_beq_eq_true h2
   obtain ⟨g',t,cs,fuel,p,q1,q2,q3,q4⟩:=yI hv "gameplayer/belief.zero" (.agg [.lit (.int .i64 0),.lit (.int .i64 1)]) (by unfold Rows.beliefBetweenRow;repeat (first | exact List.Mem.head _ | apply List.Mem.tail))
   have e1:Tryz.prog.globalNamed "gameplayer/belief.zero" = some 1:=by kernel_rfl
   have e2:(Tryz.prog.globals[1]?).map (·.type)=some 29:=by kernel_rfl
   obtain rfl:=Option.some.inj (e1.symm.trans q1)
   obtain rfl:=Option.some.inj (e2.symm.trans q2)
   obtain ⟨t',fz,hw⟩:=vg q1 q3
   exact mQ hw (Aw q4) (by decide)
 | false=>
 cases h3:Nat.beq g 3 with
 | true=>
   obtain rfl:=Nat.eq_of_beq_eq_true h3
   obtain ⟨g',t,cs,fuel,p,q1,q2,q3,q4⟩:=yI hv "gameplayer/check.keywords" Rows.laid_gameplayer_check_keywords (by unfold Rows.beliefBetweenRow;repeat (first | exact List.Mem.head _ | apply List.Mem.tail))
   have e1:Tryz.prog.globalNamed "gameplayer/check.keywords" = some 3:=by kernel_rfl
   have e2:(Tryz.prog.globals[3]?).map (·.type)=some 331:=by kernel_rfl
   obtain rfl:=Option.some.inj (e1.symm.trans q1)
   obtain rfl:=Option.some.inj (e2.symm.trans q2)
   obtain ⟨t',fz,hw⟩:=vg q1 q3
   have hcs:cs.toList=FP:=(QB q4).1
   exact mQ hw (hcs.trans kw_same) kw_ok
 | false=>exact absurd (by unfold Abs.gl;rw [h1,h2,h3]) hg
end Go.Proofs.YtepmohahglddnaaGreatDoor
