/- Walks: infoset's insertion; its Contains. -/
import Derived.Test.YtdbkblcekmogkaaGreatDoorOwnTAnd
import Derived.WalkKit
import Derived.ProofKit
set_option linter.unusedVariables false
set_option linter.unusedSimpArgs false
set_option linter.all false
namespace Go.Proofs.YtdbkblcekmogkaaGreatDoor
open Go Go.Abs Go.Own
attribute [local irreducible] WP
theorem iJ {α:Type} (c:α→Int):∀ (l:List α),(∀ i j (hi:i<l.length) (hj:j<l.length),i<j→c l[j]<0→c l[i]<0) →
  ∃ k,k≤l.length∧(∀ i (h:i<l.length),i<k→c l[i]<0)∧(∀ i (h:i<l.length),k≤i→¬ c l[i]<0)
 | [],_=>⟨0,by simp,fun i h=>by simp at h,fun i h=>by simp at h⟩
 | a::l,hm=>by
   by_cases ha:c a<0
   ·obtain ⟨k,h1,h2,h3⟩:=iJ c l fun i j hi hj hij h=>by
     have:=hm (i+1) (j+1) (by simp;omega) (by simp;omega) (by omega) (by simpa using h)
     simpa using this
    refine ⟨k+1,by simp;omega,fun i h hi=>?_,fun i h hi=>?_⟩
    ·cases i with
     | zero=>exact ha
     | succ i=>simpa using h2 i (by simpa using h) (by omega)
    ·cases i with
     | zero=>omega
     | succ i=>simpa using h3 i (by simpa using h) (by omega)
   ·refine ⟨0,by simp,fun i h hi=>by omega,fun i h _ hc=>?_⟩
    rcases Nat.eq_zero_or_pos i with rfl | hi
    ·exact ha hc
    ·exact ha (hm 0 i (by simp) h hi hc)
theorem Tryz.F7 (set:List (List Int)) (state:List Int) (hl:set.length≤1000000) (hr:∀ r∈set,r.length≤1000000) (hs:state.length≤1000000) (hasc:Q5 set) :
  Pure Tryz.prog 9 [.list (set.map enL),.list (state.map enI)] [.bool (decide (state∈set))]:=by
 have hm:∀ i j (hi:i<set.length) (hj:j<set.length),i<j→cmpL set[j] state<0→cmpL set[i] state<0:=fun i j hi hj hij h=>
  rJ (List.pairwise_iff_getElem.1 hasc i j hi hj hij) h
 obtain ⟨k,hk,h1,h2⟩:=iJ (fun r=>cmpL r state) set hm
 have hres:hit (fun r=>cmpL r state) set[k]?=decide (state∈set):=by
  by_cases hin:state∈set
  ·obtain ⟨i,hi,he⟩:=List.getElem_of_mem hin
   have hki:k≤i:=by
    rcases Nat.lt_or_ge i k with h | h
    ·have:=h1 i hi h;rw [he,jH.2 rfl] at this;omega
    ·exact h
   have hik:k=i:=by
    rcases Nat.lt_or_ge k i with h | h
    ·have:=List.pairwise_iff_getElem.1 hasc k i (by omega) hi h
     rw [he] at this
     exact absurd this (h2 k (by omega) (Nat.le_refl _))
    ·omega
   subst hik
   rw [List.getElem?_eq_getElem hi,he]
   simp [hin,hit,jH.2]
  ·cases hg:set[k]? with
   | none=>simp [hin,hit]
   | some a=>
     have:a≠state:=fun e=>hin (e ▸ List.mem_of_getElem? hg)
     simp [hin,hit,jH,this]
 refine Pure.of_wp hT (nt:=_) (c:=_) Tryz.func9 rfl rfl rfl rfl (by kernel_rfl) ?_
 intro w0 ok0 β0
 repeat first | refine W1 ?_ | refine W3 ?_ | ((first | refine W2 hT hM [] ?_ | refine W4 ?_ | refine W5 ?_ | refine W6 ?_ | refine W7 ?_ rfl);conv=>whnf)
 refine .inl ⟨_,Tryz.ags set state 27 (fun r=>cmpL r state) (fun r hr'=>Tryz.yJ r state (hr r hr') hs) hl k hk h1 h2,.inl rfl,?_⟩
 conv=>whnf
 repeat first | refine W1 ?_ | refine W3 ?_ | ((first | refine W2 hT hM [] ?_ | refine W4 ?_ | refine W5 ?_ | refine W6 ?_ | refine W7 ?_ rfl);conv=>whnf)
 rw [hres]
theorem Tryz.Ac (l:List Int) (x:Int) (hl:l.length≤1000000) (hasc:Asc l) :
  Pure Tryz.prog 55 [.list (l.map enI),.int .i64 x,.fn 23 []] [.int .i64 (l.filter (fun y=>decide (y<x))).length,.bool (decide (x∈l))]:=by
 have hs:=vY hasc x
 have hle:(l.takeWhile (fun y=>decide (y<x))).length≤l.length:=by
  rw [hs.1];exact List.length_filter_le _ _
 rw [← hs.1]
 generalize hk:(l.takeWhile (fun y=>decide (y<x))).length=k at hle
 have e1:l.take k=l.takeWhile (fun y=>decide (y<x)):=by
  conv=>lhs;rw [← List.takeWhile_append_dropWhile (p:=fun y=>decide (y<x)) (l:=l)]
  rw [List.take_append_of_le_length (by omega),List.take_of_length_le (by omega)]
 have e2:l.drop k=l.dropWhile (fun y=>decide (y<x)):=by
  conv=>lhs;rw [← List.takeWhile_append_dropWhile (p:=fun y=>decide (y<x)) (l:=l)]
  rw [List.drop_append_of_le_length (by omega),List.drop_of_length_le (by omega),List.nil_append]
 have h1:∀ i (h:i<l.length),i<k→nN l[i] x<0:=fun i h hi=>by
  have hm:l[i]∈l.take k:=List.mem_take_iff_getElem.2 ⟨i,by omega,rfl⟩
  rw [e1,hs.1] at hm
  exact AB.2 (by simpa using (List.mem_filter.1 hm).2)
 have h2:∀ i (h:i<l.length),k≤i→¬ nN l[i] x<0:=fun i h hi=>by
  have hm:l[i]∈l.drop k:=by
   have:(l.drop k)[i-k]?=some l[i]:=by rw [List.getElem?_drop,show k+(i-k)=i by omega,List.getElem?_eq_getElem h]
   exact List.mem_of_getElem? this
  rw [e2,hs.2] at hm
  rw [AB]
  simpa using (List.mem_filter.1 hm).2
 have hres:hit (fun a=>nN a x) l[k]?=decide (x∈l):=by
  by_cases hin:x∈l
  ·obtain ⟨i,hi,he⟩:=List.getElem_of_mem hin
   have hki:k≤i:=by
    rcases Nat.lt_or_ge i k with h | h
    ·have:=h1 i hi h;rw [he,pW.2 rfl] at this;omega
    ·exact h
   have hik:k=i:=by
    rcases Nat.lt_or_ge k i with h | h
    ·have:=List.pairwise_iff_getElem.1 hasc k i (by omega) hi h
     rw [he] at this
     exact absurd (AB.2 this) (h2 k (by omega) (Nat.le_refl _))
    ·omega
   subst hik
   rw [List.getElem?_eq_getElem hi,he]
   simp [hin,hit,pW.2]
  ·cases hg:l[k]? with
   | none=>simp [hin,hit]
   | some a=>
     have:a≠x:=fun e=>hin (e ▸ List.mem_of_getElem? hg)
     simp [hin,hit,pW,this]
 have:=Tryz.agt l x 23 (fun a=>nN a x) (fun a _=>Tryz.O4 a x) hl k hle h1 h2
 rw [hres] at this
 exact this
theorem Tryz.XL (x:Int) :
  oW Tryz.prog 22 [] [.aj,.d (.int .i64 x),.func (.func 23) [] []] [] [0] [.sl 0 1 0 1] [((0,0),.arr 1 [enI x])]:=by
 have h0:Pure Tryz.prog 55 [.list [],.int .i64 x,.fn 23 []] [.int .i64 0,.bool false]:=by simpa using Tryz.Ac [] x (by simp) .nil
 refine oW.of_wp hT (nt:=_) (c:=_) Tryz.func22 rfl rfl rfl rfl (by kernel_rfl) rfl rfl ?_
 intro w0 ok0 wr β0
 repeat first | refine W1 ?_ | refine W3 ?_ | ((first | refine W2 hT hM [] ?_ | refine W4 ?_ | refine W5 ?_ | refine W6 ?_ | refine W7 ?_ rfl);conv=>whnf)
 refine .inl ⟨_,h0,.inl rfl,?_⟩
 conv=>whnf
 repeat first | refine W1 ?_ | refine W3 ?_ | ((first | refine W2 hT hM [] ?_ | refine W4 ?_ | refine W5 ?_ | refine W6 ?_ | refine W7 ?_ rfl);conv=>whnf)
 refine ⟨rfl,?_⟩
 conv=>whnf
 refine .inr ⟨_,_,_,_,_,_,Tryz.insert_nil x,[(1,21),(2,22)],[22],rfl,rfl,?_⟩
 conv=>whnf
 refine ⟨rfl,?_⟩
 conv=>whnf
 repeat first | refine W1 ?_ | refine W3 ?_ | ((first | refine W2 hT hM [] ?_ | refine W4 ?_ | refine W5 ?_ | refine W6 ?_ | refine W7 ?_ rfl);conv=>whnf)
 refine ⟨[(0,some 22)],[],?_,rfl⟩
 ((conv=>whnf);repeat (first | exact True.intro | (refine And.intro (by first | rfl | exact ⟨rfl,rfl,rfl⟩ | exact ⟨rfl,rfl,by simp⟩ | exact ⟨rfl,rfl⟩ | exact ⟨rfl,by simp⟩ | (simp;done) | (simp;omega)) ?_;conv=>whnf)))
theorem Tryz.XM (l:List Int) (x:Int) (hl:l.length≤1000000) (hasc:Asc l) (hx:x∈l) :
  oW Tryz.prog 22 [0] [.sl 0 1 0 l.length,.d (.int .i64 x),.func (.func 23) [] []] [((0,0),.arr 1 (l.map enI))] [] [.sl 0 1 0 l.length] [((0,0),.arr 1 (l.map enI))]:=by
 have h0:=Tryz.Ac l x hl hasc
 rw [decide_eq_true hx] at h0
 refine oW.of_wp hT (nt:=_) (c:=_) Tryz.func22 rfl rfl rfl rfl (by kernel_rfl) rfl rfl ?_
 intro w0 ok0 wr β0
 repeat first | refine W1 ?_ | refine W3 ?_ | ((first | refine W2 hT hM [] ?_ | refine W4 ?_ | refine W5 ?_ | refine W6 ?_ | refine W7 ?_ rfl);conv=>whnf)
 refine .inl ⟨l.map enI,by rw [List.drop_zero,List.take_of_length_le (by simp)],by simp,?_⟩
 conv=>whnf
 refine ⟨_,h0,.inr rfl,?_⟩
 conv=>whnf
 repeat first | refine W1 ?_ | refine W3 ?_ | ((first | refine W2 hT hM [] ?_ | refine W4 ?_ | refine W5 ?_ | refine W6 ?_ | refine W7 ?_ rfl);conv=>whnf)
 refine ⟨[(0,some 0)],[],?_,rfl⟩
 ((conv=>whnf);repeat (first | exact True.intro | (refine And.intro (by first | rfl | exact ⟨rfl,rfl,rfl⟩ | exact ⟨rfl,rfl,by simp⟩ | exact ⟨rfl,rfl⟩ | exact ⟨rfl,by simp⟩ | (simp;done) | (simp;omega)) ?_;conv=>whnf)))
theorem Tryz.XK (l:List Int) (x:Int) (hl:l.length≤1000000) (hasc:Asc l) (hx:x∉l) :
  oW Tryz.prog 22 [0] [.sl 0 1 0 l.length,.d (.int .i64 x),.func (.func 23) [] []] [((0,0),.arr 1 (l.map enI))] [1] [.sl 1 1 0 (ins l x).length] [((1,0),.arr 1 ((ins l x).map enI))]:=by
 have h0:=Tryz.Ac l x hl hasc
 rw [decide_eq_false hx] at h0
 have hk:(l.filter (fun y=>decide (y<x))).length≤l.length:=List.length_filter_le _ _
 have hi:=Tryz.IB l x _ hk hl (ins l x) (NY hasc x)
 refine oW.of_wp hT (nt:=_) (c:=_) Tryz.func22 rfl rfl rfl rfl (by kernel_rfl) rfl rfl ?_
 intro w0 ok0 wr β0
 repeat first | refine W1 ?_ | refine W3 ?_ | ((first | refine W2 hT hM [] ?_ | refine W4 ?_ | refine W5 ?_ | refine W6 ?_ | refine W7 ?_ rfl);conv=>whnf)
 refine .inl ⟨l.map enI,by rw [List.drop_zero,List.take_of_length_le (by simp)],by simp,?_⟩
 conv=>whnf
 refine ⟨_,h0,.inr rfl,?_⟩
 conv=>whnf
 repeat first | refine W1 ?_ | refine W3 ?_ | ((first | refine W2 hT hM [] ?_ | refine W4 ?_ | refine W5 ?_ | refine W6 ?_ | refine W7 ?_ rfl);conv=>whnf)
 refine ⟨rfl,?_⟩
 conv=>whnf
 refine .inr ⟨_,_,_,_,_,_,hi,[(0,0),(1,21),(2,22)],[22],rfl,rfl,?_⟩
 conv=>whnf
 refine ⟨rfl,?_⟩
 conv=>whnf
 refine ⟨rfl,?_⟩
 conv=>whnf
 repeat first | refine W1 ?_ | refine W3 ?_ | ((first | refine W2 hT hM [] ?_ | refine W4 ?_ | refine W5 ?_ | refine W6 ?_ | refine W7 ?_ rfl);conv=>whnf)
 refine ⟨[(0,some 0),(1,some 22)],[],?_,rfl⟩
 ((conv=>whnf);repeat (first | exact True.intro | (refine And.intro (by first | rfl | exact ⟨rfl,rfl,rfl⟩ | exact ⟨rfl,rfl,by simp⟩ | exact ⟨rfl,rfl⟩ | exact ⟨rfl,by simp⟩ | (simp;done) | (simp;omega)) ?_;conv=>whnf)))
end Go.Proofs.YtdbkblcekmogkaaGreatDoor
namespace Go.Proofs.YtdbkblcekmogkaaGreatDoor
open Go Go.Abs Go.Own
attribute [local irreducible] WP
def enC (c:List (Int×Int)):List (D×D):=c.map fun p=>(enI p.1,enI p.2)
theorem Ih:∀ (c:List (Int×Int)) (b:Int),(Abs.look (enC c) (.int .i64 b)).getD (.int .i64 0) = .int .i64 ((nG c b).getD 0)
 | [],b=>rfl
 | e::es,b=>by
   show (match (b==e.1) with | true=>some (enI e.2) | false=>Abs.look (enC es) (.int .i64 b)).getD (.int .i64 0)=_
   unfold nG
   by_cases h:b=e.1
   ·subst h;simp [enI]
   ·simp only [beq_eq_false_iff_ne.2 h,if_neg h]
    exact Ih es b
theorem Hu:∀ (c:List (Int×Int)) (b n:Int),xM (enC c) (.int .i64 b) (.int .i64 n)=enC (Hw c b n)
 | [],b,n=>rfl
 | e::es,b,n=>by
   show (match (b==e.1) with | true=>(D.int .i64 b,D.int .i64 n)::enC es | false=>(enI e.1,enI e.2)::xM (enC es) (.int .i64 b) (.int .i64 n))=_
   unfold Hw
   by_cases h:b=e.1
   ·subst h;simp [enC,enI]
   ·simp only [beq_eq_false_iff_ne.2 h,if_neg h,Hu es b n]
    rfl
theorem Fe (c:List (Int×Int)):∀ e∈enC c,bg (T 3) e.1=true:=by
 intro e he
 obtain ⟨p,_,rfl⟩:=List.mem_map.1 he
 rfl
theorem Ii (l:List Int) (b:Int):(Abs.look (enC (nJ l)) (enI b)).getD (.int .i64 0) = .int .i64 ((l.count b:Nat):Int):=by
 rw [← zC];exact Ih _ b
theorem Xq (l:List Int) (b:Int):xM (enC (nJ l)) (enI b) (.int .i64 (((l.count b:Nat):Int)+1))=enC (nJ (l++[b])):=by
 rw [AA,zC];exact Hu _ b _
theorem ag4 {α:Type} {f:α→D} {a:List α} {i:Nat} (h:i<a.length):(a.map f)[0+((i:Int)).toNat]?=some (f a[i]):=by simp [h]
def Rt (id:Nat) (s:List Int):V:=match s with | [] => .aj | _::_ => .sl id 1 0 s.length
def Rx (id:Nat) (s:List Int):List (Key×Option Res):=match s with | []=>[] | _::_=>[((id,0),some (.arr 1 (s.map enI)))]
def Rw (id:Nat) (s:List Int):List (Nat×Option Nat):=match s with | []=>[] | _::_=>[(id,some id)]
def Ru (id:Nat) (s:List Int):List Nat:=match s with | []=>[] | _::_=>[id]
theorem mV {set:List (List Int)} {i:Nat} (h:i<set.length):(set.take (i+1)).flatten=(set.take i).flatten++set[i]:=by
 rw [List.take_succ_eq_append_getElem h,List.flatten_append];simp
theorem fB {set:List (List Int)} {m:Nat} (h:∀ r∈set,r.length≤m):set.flatten.length≤set.length*m:=by
 induction set with
 | nil=>simp
 | cons r s ih=>
   have:=ih fun x hx=>h x (List.mem_cons_of_mem _ hx)
   have:=h r List.mem_cons_self
   rw [List.flatten_cons,List.length_append,List.length_cons,Nat.add_mul];omega
theorem Tryz.certain (set:List (List Int)) (hl:set.length≤12) (hr:∀ r∈set,r.length≤30) (hasc:∀ r∈set,Asc r) :
  Pure Tryz.prog 7 [.list (set.map enL)] [.list (((bJ set.flatten).filter (bZ set)).map enI),.list ((bJ set.flatten).map enI)]:=by
 refine Pure.of_wp hT (nt:=_) (c:=_) Tryz.func7 rfl rfl rfl rfl (by kernel_rfl) ?_
 intro w0 ok0 β0
 repeat first | refine W1 ?_ | refine W3 ?_ | ((first | refine W2 hT hM [] ?_ | refine W4 ?_ | refine W5 ?_ | refine W6 ?_ | refine W7 ?_ rfl);conv=>whnf)
 refine WP.loop (α:=Nat×List Int) (fun x=>⟨[(0,.d (.list (set.map enL))),(4,.map 0),(5,Rt 1 x.2),(14,.d (.list (set.map enL))),(15,.d (.int .i64 set.length)),(16,.d (.int .i64 x.1))],((0,0),some (.map (enC (nJ (set.take x.1).flatten))))::Rx 1 x.2,0::Ru 1 x.2⟩)
  (fun x=>x.1≤set.length∧x.2=bJ (set.take x.1).flatten) (fun x=>set.length-x.1) (0,[]) [(0,some 13)] [] ?_ ?_ ?_
 ·((conv=>whnf);repeat (first | exact True.intro | (refine And.intro (by first | rfl | exact ⟨rfl,rfl,rfl⟩ | exact ⟨rfl,rfl,by simp⟩ | exact ⟨rfl,rfl⟩ | exact ⟨rfl,by simp⟩ | (simp;done) | (simp;omega)) ?_;conv=>whnf)))
 ·simp [bJ]
 ·rintro ⟨i,s⟩ ⟨hi,hs⟩
  simp only at hi hs
  repeat first | refine W1 ?_ | refine W3 ?_ | ((first | refine W2 hT hM [] ?_ | refine W4 ?_ | refine W5 ?_ | refine W6 ?_ | refine W7 ?_ rfl);conv=>whnf)
  (split<;>rename_i hb<;>(try rw [hb])<;>(conv=>whnf))
  ·have hlt:i<set.length:=by simpa using hb
   clear hb
   repeat first | refine W1 ?_ | refine W3 ?_ | ((first | refine W2 hT hM [] ?_ | refine W4 ?_ | refine W5 ?_ | refine W6 ?_ | refine W7 ?_ rfl);conv=>whnf)
   refine ⟨by omega,_,bn hlt,rfl,?_⟩
   conv=>whnf
   repeat first | refine W1 ?_ | refine W3 ?_ | ((first | refine W2 hT hM [] ?_ | refine W4 ?_ | refine W5 ?_ | refine W6 ?_ | refine W7 ?_ rfl);conv=>whnf)
   have hri:=hr _ (List.getElem_mem hlt)
   have hfl:∀ k,((set.take i).flatten++set[i].take k).length≤390:=fun k=>by
    have h1:=fB (set:=set.take i) (m:=30) fun r h=>hr r (List.mem_of_mem_take h)
    have h2:(set.take i).length≤12:=by simp;omega
    simp only [List.length_append,List.length_take]
    omega
   refine WP.loop (α:=Nat×List Int) (fun x=>⟨[(0,.d (.list (set.map enL))),(4,.map 0),(5,Rt 1 x.2),(14,.d (.list (set.map enL))),(15,.d (.int .i64 set.length)),(16,.d (.int .i64 i)),
     (20,.d (.list (set[i].map enI))),(21,.d (.int .i64 set[i].length)),(22,.d (.int .i64 x.1))],((0,0),some (.map (enC (nJ ((set.take i).flatten++set[i].take x.1)))))::Rx 1 x.2,0::Ru 1 x.2⟩)
    (fun x=>x.1≤set[i].length∧x.2=bJ ((set.take i).flatten++set[i].take x.1)) (fun x=>set[i].length-x.1) (0,s) ((0,some 0)::Rw 1 s) [] ?_ ?_ ?_
   ·rw [List.take_zero,List.append_nil]
    cases s<;>((conv=>whnf);repeat (first | exact True.intro | (refine And.intro (by first | rfl | exact ⟨rfl,rfl,rfl⟩ | exact ⟨rfl,rfl,by simp⟩ | exact ⟨rfl,rfl⟩ | exact ⟨rfl,by simp⟩ | (simp;done) | (simp;omega)) ?_;conv=>whnf)))
   ·simpa using hs
   ·rintro ⟨k,s⟩ ⟨hk,hs⟩
    simp only at hk hs
    repeat first | refine W1 ?_ | refine W3 ?_ | ((first | refine W2 hT hM [] ?_ | refine W4 ?_ | refine W5 ?_ | refine W6 ?_ | refine W7 ?_ rfl);conv=>whnf)
    (split<;>rename_i hb<;>(try rw [hb])<;>(conv=>whnf))
    ·have hkl:k<set[i].length:=by simpa using hb
     clear hb
     repeat first | refine W1 ?_ | refine W3 ?_ | ((first | refine W2 hT hM [] ?_ | refine W4 ?_ | refine W5 ?_ | refine W6 ?_ | refine W7 ?_ rfl);conv=>whnf)
     refine ⟨by omega,_,bn hkl,rfl,?_⟩
     conv=>whnf
     repeat first | refine W1 ?_ | refine W3 ?_ | ((first | refine W2 hT hM [] ?_ | refine W4 ?_ | refine W5 ?_ | refine W6 ?_ | refine W7 ?_ rfl);conv=>whnf)
     refine ⟨Fe _,?_⟩
     conv=>whnf
     rw [Ii]
     conv=>whnf
     have hcl:=List.count_le_length (a:=set[i][k]) (l:=(set.take i).flatten++set[i].take k)
     have hfk:=hfl k
     refine ⟨by simp only;omega,?_⟩
     conv=>whnf
     refine ⟨Fe _,?_⟩
     conv=>whnf
     have htk:((set.take i).flatten++set[i].take k)++[set[i][k]]=(set.take i).flatten++set[i].take (k+1):=by
      rw [List.append_assoc,← List.take_succ_eq_append_getElem hkl]
     have hs':bJ ((set.take i).flatten++set[i].take (k+1))=jD s set[i][k]:=by rw [← htk,wJ,← hs]
     have hsl:s.length≤1000000:=by rw [hs];exact Nat.le_trans (jc _) (by omega)
     have hsa:Asc s:=by rw [hs];exact AY _
     rw [Xq,htk]
     repeat first | refine W1 ?_ | refine W3 ?_ | ((first | refine W2 hT hM [] ?_ | refine W4 ?_ | refine W5 ?_ | refine W6 ?_ | refine W7 ?_ rfl);conv=>whnf)
     cases s with
     | nil=>
       refine .inr ⟨_,_,_,_,_,_,Tryz.XL set[i][k],[(0,32)],[32],rfl,rfl,?_⟩
       conv=>whnf
       repeat first | refine W1 ?_ | refine W3 ?_ | ((first | refine W2 hT hM [] ?_ | refine W4 ?_ | refine W5 ?_ | refine W6 ?_ | refine W7 ?_ rfl);conv=>whnf)
       refine ⟨by simp only;omega,?_⟩
       conv=>whnf
       refine ⟨(k+1,[set[i][k]]),[(0,some 0),(1,some 32)],[],?_,⟨by simp only;omega,?_⟩,by simp only;omega⟩
       ·((conv=>whnf);repeat (first | exact True.intro | (refine And.intro (by first | rfl | exact ⟨rfl,rfl,rfl⟩ | exact ⟨rfl,rfl,by simp⟩ | exact ⟨rfl,rfl⟩ | exact ⟨rfl,by simp⟩ | (simp;done) | (simp;omega)) ?_;conv=>whnf)))
       ·simp only
        rw [hs'];rfl
     | cons a t=>
       by_cases hx:set[i][k]∈a::t
       ·refine .inr ⟨_,_,_,_,_,_,Tryz.XM (a::t) set[i][k] hsl hsa hx,[(0,1)],[],rfl,rfl,?_⟩
        conv=>whnf
        refine ⟨rfl,?_⟩
        conv=>whnf
        repeat first | refine W1 ?_ | refine W3 ?_ | ((first | refine W2 hT hM [] ?_ | refine W4 ?_ | refine W5 ?_ | refine W6 ?_ | refine W7 ?_ rfl);conv=>whnf)
        refine ⟨by simp only;omega,?_⟩
        conv=>whnf
        refine ⟨(k+1,a::t),[(0,some 0),(1,some 1)],[],?_,⟨by simp only;omega,?_⟩,by simp only;omega⟩
        ·((conv=>whnf);repeat (first | exact True.intro | (refine And.intro (by first | rfl | exact ⟨rfl,rfl,rfl⟩ | exact ⟨rfl,rfl,by simp⟩ | exact ⟨rfl,rfl⟩ | exact ⟨rfl,by simp⟩ | (simp;done) | (simp;omega)) ?_;conv=>whnf)))
        ·simp only
         rw [hs',jD,if_pos hx]
       ·have hO:=Tryz.XK (a::t) set[i][k] hsl hsa hx
        have hs2:jD (a::t) set[i][k]=ins (a::t) set[i][k]:=by rw [jD,if_neg hx]
        obtain ⟨c,u,hcu⟩:∃ c u,ins (a::t) set[i][k]=c::u:=by
         cases h:ins (a::t) set[i][k] with
         | nil=>exact absurd (XD.2 (.inl rfl):set[i][k]∈ins (a::t) set[i][k]) (by rw [h];simp)
         | cons c u=>exact ⟨c,u,rfl⟩
        rw [hcu] at hO hs2
        refine .inr ⟨_,_,_,_,_,_,hO,[(0,1),(1,32)],[32],rfl,rfl,?_⟩
        conv=>whnf
        refine ⟨rfl,?_⟩
        conv=>whnf
        repeat first | refine W1 ?_ | refine W3 ?_ | ((first | refine W2 hT hM [] ?_ | refine W4 ?_ | refine W5 ?_ | refine W6 ?_ | refine W7 ?_ rfl);conv=>whnf)
        refine ⟨by simp only;omega,?_⟩
        conv=>whnf
        refine ⟨(k+1,c::u),[(0,some 0),(1,some 32)],[],?_,⟨by simp only;omega,?_⟩,by simp only;omega⟩
        ·((conv=>whnf);repeat (first | exact True.intro | (refine And.intro (by first | rfl | exact ⟨rfl,rfl,rfl⟩ | exact ⟨rfl,rfl,by simp⟩ | exact ⟨rfl,rfl⟩ | exact ⟨rfl,by simp⟩ | (simp;done) | (simp;omega)) ?_;conv=>whnf)))
        ·simp only
         rw [hs',hs2]
    ·have hkl:k=set[i].length:=by simp at hb;omega
     subst hkl
     repeat first | refine W1 ?_ | refine W3 ?_ | ((first | refine W2 hT hM [] ?_ | refine W4 ?_ | refine W5 ?_ | refine W6 ?_ | refine W7 ?_ rfl);conv=>whnf)
     refine ⟨by omega,?_⟩
     conv=>whnf
     refine ⟨(i+1,s),(0,some 0)::Rw 1 s,[],?_,⟨by simp only;omega,?_⟩,by simp only;omega⟩
     ·rw [List.take_length,← mV hlt]
      cases s<;>((conv=>whnf);repeat (first | exact True.intro | (refine And.intro (by first | rfl | exact ⟨rfl,rfl,rfl⟩ | exact ⟨rfl,rfl,by simp⟩ | exact ⟨rfl,rfl⟩ | exact ⟨rfl,by simp⟩ | (simp;done) | (simp;omega)) ?_;conv=>whnf)))
     ·simp only
      rw [hs,List.take_length,← mV hlt]
  ·have hii:i=set.length:=by simp at hb;omega
   subst hii
   rw [List.take_length] at hs
   clear hb
   simp only [List.take_length]
   cases s with
   | nil=>
     repeat first | refine W1 ?_ | refine W3 ?_ | ((first | refine W2 hT hM [] ?_ | refine W4 ?_ | refine W5 ?_ | refine W6 ?_ | refine W7 ?_ rfl);conv=>whnf)
     refine WP.loop (α:=Unit) (fun _=>⟨[(5,.aj),(10,.aj),(36,.d (.int .i64 0)),(37,.d (.int .i64 0))],[],[]⟩) (fun _=>True) (fun _=>0) () [] [] ?_ trivial ?_
     ·((conv=>whnf);repeat (first | exact True.intro | (refine And.intro (by first | rfl | exact ⟨rfl,rfl,rfl⟩ | exact ⟨rfl,rfl,by simp⟩ | exact ⟨rfl,rfl⟩ | exact ⟨rfl,by simp⟩ | (simp;done) | (simp;omega)) ?_;conv=>whnf)))
     ·intro _ _
      repeat first | refine W1 ?_ | refine W3 ?_ | ((first | refine W2 hT hM [] ?_ | refine W4 ?_ | refine W5 ?_ | refine W6 ?_ | refine W7 ?_ rfl);conv=>whnf)
      rw [← hs]
      rfl
   | cons a t=>
     repeat first | refine W1 ?_ | refine W3 ?_ | ((first | refine W2 hT hM [] ?_ | refine W4 ?_ | refine W5 ?_ | refine W6 ?_ | refine W7 ?_ rfl);conv=>whnf)
     refine WP.loop (α:=Nat×List Int) (fun x=>⟨[(0,.d (.list (set.map enL))),(4,.map 0),(5,.sl 1 1 0 (a::t).length),(10,Rt 2 x.2),(35,.sl 1 1 0 (a::t).length),(36,.d (.int .i64 (a::t).length)),(37,.d (.int .i64 x.1))],
       ((0,0),some (.map (enC (nJ set.flatten))))::((1,0),some (.arr 1 ((a::t).map enI)))::Rx 2 x.2,0::1::Ru 2 x.2⟩)
      (fun x=>x.1≤(a::t).length∧x.2=((a::t).take x.1).filter (bZ set)) (fun x=>(a::t).length-x.1) (0,[]) [(0,some 0),(1,some 1)] [] ?_ ?_ ?_
     ·((conv=>whnf);repeat (first | exact True.intro | (refine And.intro (by first | rfl | exact ⟨rfl,rfl,rfl⟩ | exact ⟨rfl,rfl,by simp⟩ | exact ⟨rfl,rfl⟩ | exact ⟨rfl,by simp⟩ | (simp;done) | (simp;omega)) ?_;conv=>whnf)))
     ·simp
     ·rintro ⟨j,al⟩ ⟨hj,hal⟩
      simp only at hj hal
      have htl:(a::t).length≤1000000:=by
       rw [hs]
       refine Nat.le_trans (jc _) (Nat.le_trans (fB hr) ?_)
       omega
      repeat first | refine W1 ?_ | refine W3 ?_ | ((first | refine W2 hT hM [] ?_ | refine W4 ?_ | refine W5 ?_ | refine W6 ?_ | refine W7 ?_ rfl);conv=>whnf)
      (split<;>rename_i hb<;>(try rw [hb])<;>(conv=>whnf))
      ·have hlt:j<(a::t).length:=by have:=of_decide_eq_true hb;omega
       clear hb
       repeat first | refine W1 ?_ | refine W3 ?_ | ((first | refine W2 hT hM [] ?_ | refine W4 ?_ | refine W5 ?_ | refine W6 ?_ | refine W7 ?_ rfl);conv=>whnf)
       refine ⟨by simp only;omega,?_⟩
       conv=>whnf
       refine ⟨_,ag4 hlt,?_⟩
       conv=>whnf
       repeat first | refine W1 ?_ | refine W3 ?_ | ((first | refine W2 hT hM [] ?_ | refine W4 ?_ | refine W5 ?_ | refine W6 ?_ | refine W7 ?_ rfl);conv=>whnf)
       refine ⟨Fe _,?_⟩
       conv=>whnf
       rw [Ii]
       conv=>whnf
       repeat first | refine W1 ?_ | refine W3 ?_ | ((first | refine W2 hT hM [] ?_ | refine W4 ?_ | refine W5 ?_ | refine W6 ?_ | refine W7 ?_ rfl);conv=>whnf)
       obtain ⟨hcl,hci⟩:=QS hasc (a::t)[j]
       have hnx:((a::t).take (j+1)).filter (bZ set)=al++(if bZ set (a::t)[j] then [(a::t)[j]] else []):=by
        rw [List.take_succ_eq_append_getElem hlt,List.filter_append,← hal]
        cases h:bZ set (a::t)[j]
        ·rw [List.filter_cons_of_neg (by rw [h];simp)];rfl
        ·rw [List.filter_cons_of_pos h];rfl
       (split<;>rename_i hb<;>(try rw [hb])<;>(conv=>whnf))
       ·have hin:bZ set (a::t)[j]=true:=hci.1 (Int.ofNat_inj.1 (by simpa using hb))
        rw [if_pos hin] at hnx
        repeat first | refine W1 ?_ | refine W3 ?_ | ((first | refine W2 hT hM [] ?_ | refine W4 ?_ | refine W5 ?_ | refine W6 ?_ | refine W7 ?_ rfl);conv=>whnf)
        cases al with
        | nil=>
          conv=>whnf
          refine ⟨rfl,?_⟩
          conv=>whnf
          refine ⟨_,rfl,Nat.le_refl _,Nat.le_of_ble_eq_true rfl,?_⟩
          conv=>whnf
          repeat first | refine W1 ?_ | refine W3 ?_ | ((first | refine W2 hT hM [] ?_ | refine W4 ?_ | refine W5 ?_ | refine W6 ?_ | refine W7 ?_ rfl);conv=>whnf)
          refine ⟨by simp only;omega,?_⟩
          conv=>whnf
          refine ⟨(j+1,[(a::t)[j]]),[(0,some 0),(1,some 1),(2,some 50)],[],?_,⟨by simp only;omega,hnx.symm⟩,by simp only;omega⟩
          ((conv=>whnf);repeat (first | exact True.intro | (refine And.intro (by first | rfl | exact ⟨rfl,rfl,rfl⟩ | exact ⟨rfl,rfl,by simp⟩ | exact ⟨rfl,rfl⟩ | exact ⟨rfl,by simp⟩ | (simp;done) | (simp;omega)) ?_;conv=>whnf)))
        | cons c u=>
          conv=>whnf
          refine ⟨rfl,?_⟩
          conv=>whnf
          have hall:(c::u).length≤1000000:=by
           rw [hal];exact Nat.le_trans (List.length_filter_le _ _) (Nat.le_trans (by simp only [List.length_take];omega) htl)
          refine ⟨(c::u).map enI,by rw [List.drop_zero,List.take_of_length_le (by simp)],by simp,?_⟩
          conv=>whnf
          refine ⟨_,rfl,Nat.le_refl _,?_,?_⟩
          ·have h8:(T 3).bytes=8:=rfl
           rw [h8]
           simp only [List.length_map]
           have:(List.take [enI (a::t)[j]].length (List.drop 0 [enI (a::t)[j]])).length=1:=rfl
           omega
          conv=>whnf
          repeat first | refine W1 ?_ | refine W3 ?_ | ((first | refine W2 hT hM [] ?_ | refine W4 ?_ | refine W5 ?_ | refine W6 ?_ | refine W7 ?_ rfl);conv=>whnf)
          refine ⟨by simp only;omega,?_⟩
          conv=>whnf
          have hm:(c::u).map enI++[enI (a::t)[j]]=((c::u)++[(a::t)[j]]).map enI:=by simp
          refine ⟨(j+1,(c::u)++[(a::t)[j]]),[(0,some 0),(1,some 1),(2,some 50)],[],?_,⟨by simp only;omega,hnx.symm⟩,by simp only;omega⟩
          ((conv=>whnf);repeat (first | exact True.intro | (refine And.intro (by first | rfl | exact ⟨rfl,rfl,rfl⟩ | exact ⟨rfl,rfl,by simp⟩ | exact ⟨rfl,rfl⟩ | exact ⟨rfl,by simp⟩ | (simp;done) | (simp;omega)) ?_;conv=>whnf)))
       ·have hin:bZ set (a::t)[j]=false:=by
         rw [← Bool.not_eq_true,← hci]
         intro e
         rw [e] at hb
         simp at hb
        rw [hin,if_neg (by simp),List.append_nil] at hnx
        repeat first | refine W1 ?_ | refine W3 ?_ | ((first | refine W2 hT hM [] ?_ | refine W4 ?_ | refine W5 ?_ | refine W6 ?_ | refine W7 ?_ rfl);conv=>whnf)
        refine ⟨by simp only;omega,?_⟩
        conv=>whnf
        refine ⟨(j+1,al),(0,some 0)::(1,some 1)::Rw 2 al,[],?_,⟨by simp only;omega,hnx.symm⟩,by simp only;omega⟩
        cases al<;>((conv=>whnf);repeat (first | exact True.intro | (refine And.intro (by first | rfl | exact ⟨rfl,rfl,rfl⟩ | exact ⟨rfl,rfl,by simp⟩ | exact ⟨rfl,rfl⟩ | exact ⟨rfl,by simp⟩ | (simp;done) | (simp;omega)) ?_;conv=>whnf)))
      ·have hjj:j=(a::t).length:=by have:=of_decide_eq_false hb;omega
       rw [hjj,List.take_length] at hal
       clear hb
       cases al with
       | nil=>
         repeat first | refine W1 ?_ | refine W3 ?_ | ((first | refine W2 hT hM [] ?_ | refine W4 ?_ | refine W5 ?_ | refine W6 ?_ | refine W7 ?_ rfl);conv=>whnf)
         refine ⟨(a::t).map enI,by rw [List.drop_zero,List.take_of_length_le (by simp)],by simp,?_⟩
         conv=>whnf
         rw [← hs,← hal]
         rfl
       | cons c u=>
         repeat first | refine W1 ?_ | refine W3 ?_ | ((first | refine W2 hT hM [] ?_ | refine W4 ?_ | refine W5 ?_ | refine W6 ?_ | refine W7 ?_ rfl);conv=>whnf)
         refine ⟨(c::u).map enI,by rw [List.drop_zero,List.take_of_length_le (by simp)],by simp,?_⟩
         conv=>whnf
         refine ⟨(a::t).map enI,by rw [List.drop_zero,List.take_of_length_le (by simp)],by simp,?_⟩
         conv=>whnf
         rw [← hs,← hal]
end Go.Proofs.YtdbkblcekmogkaaGreatDoor
namespace Go.Proofs.YtdbkblcekmogkaaGreatDoor
open Go Go.Abs Go.Own
attribute [local irreducible] WP
theorem Tryz.IE (l:List Int) (x:Int) (hl:l.length≤1000000) (hasc:Asc l) :
  Pure Tryz.prog 25 [.list (l.map enI),.int .i64 x] [.list ((ins l x).map enI)]:=by
 have hcut:=NY hasc x
 generalize hk0:(l.filter (fun y=>decide (y<x))).length=k0 at hcut
 have hk:k0≤l.length:=by rw [← hk0];exact List.length_filter_le _ _
 have h1:∀ i (h:i<l.length),i<k0→l[i]<x:=fun i h hi=>by
  have hm:l[i]∈l.take k0:=List.mem_take_iff_getElem.2 ⟨i,by omega,rfl⟩
  rw [← hk0,(yB hasc x).1] at hm
  simpa using (List.mem_filter.1 hm).2
 have h2:∀ i (h:i<l.length),k0≤i→¬ l[i]<x:=fun i h hi=>by
  have hm:l[i]∈l.drop k0:=by
   have:(l.drop k0)[i-k0]?=some l[i]:=by rw [List.getElem?_drop,show k0+(i-k0)=i by omega,List.getElem?_eq_getElem h]
   exact List.mem_of_getElem? this
  rw [← hk0,(yB hasc x).2] at hm
  simpa using (List.mem_filter.1 hm).2
 have hcl:∀ (l:List Int) (y:D),y∈l.map enI→y.cells.length=(T 3).size:=fun l y hy=>by obtain ⟨z,_,rfl⟩:=List.mem_map.1 hy;rfl
 have e1:List.drop ((none:Option Int).getD 0).toNat (List.take ((some (k0:Int)).getD ((l.map enI).length:Int)).toNat (l.map enI))=(l.take k0).map enI:=by simp [List.map_take]
 have e2:List.drop ((some (k0:Int)).getD 0).toNat (List.take ((none:Option Int).getD ((l.map enI).length:Int)).toNat (l.map enI))=(l.drop k0).map enI:=by simp [List.map_drop,List.take_of_length_le]
 have h8:(T 3).bytes=8:=rfl
 refine Pure.of_wp hT (nt:=_) (c:=_) Tryz.func25 rfl rfl rfl rfl (by kernel_rfl) ?_
 intro w0 ok0 β0
 repeat first | refine W1 ?_ | refine W3 ?_ | ((first | refine W2 hT hM [] ?_ | refine W4 ?_ | refine W5 ?_ | refine W6 ?_ | refine W7 ?_ rfl);conv=>whnf)
 refine WP.loop (α:=Nat) (fun i=>⟨[(0,.d (.list (l.map enI))),(1,.d (.int .i64 x)),(5,.d (.int .i64 i))],[],[]⟩) (fun i=>i≤k0) (fun i=>l.length-i) 0 [] [] ?_ (Nat.zero_le _) ?_
 ·((conv=>whnf);repeat (first | exact True.intro | (refine And.intro (by first | rfl | exact ⟨rfl,rfl,rfl⟩ | exact ⟨rfl,rfl,by simp⟩ | exact ⟨rfl,rfl⟩ | exact ⟨rfl,by simp⟩ | (simp;done) | (simp;omega)) ?_;conv=>whnf)))
 ·intro i hi
  repeat first | refine W1 ?_ | refine W3 ?_ | ((first | refine W2 hT hM [] ?_ | refine W4 ?_ | refine W5 ?_ | refine W6 ?_ | refine W7 ?_ rfl);conv=>whnf)
  have fin:i=k0→True:=fun _=>trivial
  (split<;>rename_i hb<;>(try rw [hb])<;>(conv=>whnf))
  ·have hlt:i<l.length:=by simpa using hb
   clear hb
   refine ⟨by omega,_,bn hlt,rfl,?_⟩
   conv=>whnf
   repeat first | refine W1 ?_ | refine W3 ?_ | ((first | refine W2 hT hM [] ?_ | refine W4 ?_ | refine W5 ?_ | refine W6 ?_ | refine W7 ?_ rfl);conv=>whnf)
   (split<;>rename_i hb<;>(try rw [hb])<;>(conv=>whnf))
   ·have hlx:l[i]<x:=by simpa using hb
    repeat first | refine W1 ?_ | refine W3 ?_ | ((first | refine W2 hT hM [] ?_ | refine W4 ?_ | refine W5 ?_ | refine W6 ?_ | refine W7 ?_ rfl);conv=>whnf)
    refine ⟨by omega,?_⟩
    conv=>whnf
    have:i<k0:=by
     rcases Nat.lt_or_ge i k0 with h | h
     ·exact h
     ·exact absurd hlx (h2 i hlt h)
    refine ⟨i+1,[],[],?_,by omega,by omega⟩
    ((conv=>whnf);repeat (first | exact True.intro | (refine And.intro (by first | rfl | exact ⟨rfl,rfl,rfl⟩ | exact ⟨rfl,rfl,by simp⟩ | exact ⟨rfl,rfl⟩ | exact ⟨rfl,by simp⟩ | (simp;done) | (simp;omega)) ?_;conv=>whnf)))
   ·have hlx:¬ l[i]<x:=by simpa using hb
    have hik:i=k0:=by
     rcases Nat.lt_or_ge i k0 with h | h
     ·exact absurd (h1 i hlt h) hlx
     ·omega
    subst hik
    clear hb
    repeat first | refine W1 ?_ | refine W3 ?_ | ((first | refine W2 hT hM [] ?_ | refine W4 ?_ | refine W5 ?_ | refine W6 ?_ | refine W7 ?_ rfl);conv=>whnf)
    refine ⟨⟨(by first | (simp;done) | (simp;omega)),(by first | (simp;done) | (simp;omega)),(by first | (simp;done) | (simp;omega))⟩,hcl l,?_⟩
    conv=>whnf
    rw [e1]
    refine ⟨hcl _,?_,?_⟩
    ·rw [h8];simp;omega
    conv=>whnf
    refine ⟨rfl,?_⟩
    conv=>whnf
    refine ⟨_,rfl,by simp,?_⟩
    conv=>whnf
    refine ⟨_,rfl,by simp,?_,?_⟩
    ·rw [h8];simp;omega
    conv=>whnf
    refine ⟨⟨(by first | (simp;done) | (simp;omega)),(by first | (simp;done) | (simp;omega)),(by first | (simp;done) | (simp;omega))⟩,hcl l,?_⟩
    conv=>whnf
    rw [e2]
    refine ⟨_,rfl,by simp,?_⟩
    conv=>whnf
    refine ⟨hcl _,?_,?_⟩
    ·rw [h8];simp;omega
    conv=>whnf
    repeat first | refine W1 ?_ | refine W3 ?_ | ((first | refine W2 hT hM [] ?_ | refine W4 ?_ | refine W5 ?_ | refine W6 ?_ | refine W7 ?_ rfl);conv=>whnf)
    refine ⟨(ins l x).map enI,?_,by simp,?_⟩
    ·rw [hcut]
     simp [enI]
     rw [List.take_of_length_le (l:=List.take i (l.map enI)) (by simp),List.take_of_length_le (by simp),List.take_of_length_le (by first | (simp;done) | (simp;omega))]
     simp
    conv=>whnf
  ·have hik:i=k0:=by simp at hb;omega
   subst hik
   clear hb
   repeat first | refine W1 ?_ | refine W3 ?_ | ((first | refine W2 hT hM [] ?_ | refine W4 ?_ | refine W5 ?_ | refine W6 ?_ | refine W7 ?_ rfl);conv=>whnf)
   refine ⟨⟨(by first | (simp;done) | (simp;omega)),(by first | (simp;done) | (simp;omega)),(by first | (simp;done) | (simp;omega))⟩,hcl l,?_⟩
   conv=>whnf
   rw [e1]
   refine ⟨hcl _,?_,?_⟩
   ·rw [h8];simp;omega
   conv=>whnf
   refine ⟨rfl,?_⟩
   conv=>whnf
   refine ⟨_,rfl,by simp,?_⟩
   conv=>whnf
   refine ⟨_,rfl,by simp,?_,?_⟩
   ·rw [h8];simp;omega
   conv=>whnf
   refine ⟨⟨(by first | (simp;done) | (simp;omega)),(by first | (simp;done) | (simp;omega)),(by first | (simp;done) | (simp;omega))⟩,hcl l,?_⟩
   conv=>whnf
   rw [e2]
   refine ⟨_,rfl,by simp,?_⟩
   conv=>whnf
   refine ⟨hcl _,?_,?_⟩
   ·rw [h8];simp;omega
   conv=>whnf
   repeat first | refine W1 ?_ | refine W3 ?_ | ((first | refine W2 hT hM [] ?_ | refine W4 ?_ | refine W5 ?_ | refine W6 ?_ | refine W7 ?_ rfl);conv=>whnf)
   refine ⟨(ins l x).map enI,?_,by simp,?_⟩
   ·rw [hcut]
    simp [enI]
    rw [List.take_of_length_le (l:=List.take i (l.map enI)) (by simp),List.take_of_length_le (by simp),List.take_of_length_le (by first | (simp;done) | (simp;omega))]
    simp
   conv=>whnf
end Go.Proofs.YtdbkblcekmogkaaGreatDoor
namespace Go.Proofs.YtdbkblcekmogkaaGreatDoor
open Go Go.Abs Go.Own
attribute [local irreducible] WP
def P5 (set:List (List Int)) (i:Nat):Prop:=(∀ j (h:j+1<set.length),j+1<i→cmpL set[j] set[j+1]<0)∧∀ j (h:j<set.length),j<i→Asc set[j]
theorem Jp {set:List (List Int)} (h:P5 set set.length):Q5 set∧∀ r∈set,Asc r:=
 ⟨fQ (R:=fun a b=>cmpL a b<0) (fun a b c=>rJ) fun i hi=>h.1 i hi hi,fun r hr=>by
  obtain ⟨j,hj,rfl⟩:=List.getElem_of_mem hr
  exact h.2 j hj hj⟩
noncomputable def ZF (set:List (List Int)):Bool:=@decide (Q5 set∧∀ r∈set,Asc r) (Classical.propDecidable _)
theorem agH {set:List (List Int)} (h:Q5 set∧∀ r∈set,Asc r):ZF set=true:=@decide_eq_true _ (Classical.propDecidable _) h
theorem GK {set:List (List Int)} (h:¬ (Q5 set∧∀ r∈set,Asc r)):ZF set=false:=@decide_eq_false _ (Classical.propDecidable _) h
theorem zJ {α:Type} {f:α→D} {a:List α} {i:Nat} (h0:1≤i) (h:i≤a.length):(a.map f)[((i:Int)-1).toNat]?=some (f (a[i-1]'(by omega))):=by
 have:((i:Int)-1).toNat=i-1:=by omega
 rw [this];simp [show i-1<a.length by omega]
theorem Tryz.ascending (set:List (List Int)) (hl:set.length≤12) (hr:∀ r∈set,r.length≤30):Pure Tryz.prog 5 [.list (set.map enL)] [.bool (ZF set)]:=by
 refine Pure.of_wp hT (nt:=_) (c:=_) Tryz.func5 rfl rfl rfl rfl (by kernel_rfl) ?_
 intro w0 ok0 β0
 repeat first | refine W1 ?_ | refine W3 ?_ | ((first | refine W2 hT hM [] ?_ | refine W4 ?_ | refine W5 ?_ | refine W6 ?_ | refine W7 ?_ rfl);conv=>whnf)
 refine WP.loop (α:=Nat) (fun i=>⟨[(0,.d (.list (set.map enL))),(3,.d (.int .i64 i))],[],[]⟩) (fun i=>i≤set.length∧P5 set i) (fun i=>set.length-i) 0 [] [] ?_ ?_ ?_
 ·((conv=>whnf);repeat (first | exact True.intro | (refine And.intro (by first | rfl | exact ⟨rfl,rfl,rfl⟩ | exact ⟨rfl,rfl,by simp⟩ | exact ⟨rfl,rfl⟩ | exact ⟨rfl,by simp⟩ | (simp;done) | (simp;omega)) ?_;conv=>whnf)))
 ·exact ⟨Nat.zero_le _,fun j h hj=>by omega,fun j h hj=>by omega⟩
 ·rintro i ⟨hi,hasc⟩
  repeat first | refine W1 ?_ | refine W3 ?_ | ((first | refine W2 hT hM [] ?_ | refine W4 ?_ | refine W5 ?_ | refine W6 ?_ | refine W7 ?_ rfl);conv=>whnf)
  (split<;>rename_i hb<;>(try rw [hb])<;>(conv=>whnf))
  ·have hlt:i<set.length:=by simpa using hb
   have hri:=hr _ (List.getElem_mem hlt)
   clear hb
   repeat first | refine W1 ?_ | refine W3 ?_ | ((first | refine W2 hT hM [] ?_ | refine W4 ?_ | refine W5 ?_ | refine W6 ?_ | refine W7 ?_ rfl);conv=>whnf)
   (split<;>rename_i hb<;>(try rw [hb])<;>(conv=>whnf))
   ·have hi0:1≤i:=by simp at hb;omega
    clear hb
    refine ⟨by omega,?_⟩
    conv=>whnf
    refine ⟨(by first | (simp;done) | (simp;omega)),_,zJ hi0 (by omega),rfl,?_⟩
    conv=>whnf
    refine ⟨by omega,_,bn hlt,rfl,?_⟩
    conv=>whnf
    have hrp:=hr _ (List.getElem_mem (show i-1<set.length by omega))
    refine .inl ⟨_,Tryz.DR set[i-1] set[i] (by omega) (by omega),.inl rfl,?_⟩
    conv=>whnf
    repeat first | refine W1 ?_ | refine W3 ?_ | ((first | refine W2 hT hM [] ?_ | refine W4 ?_ | refine W5 ?_ | refine W6 ?_ | refine W7 ?_ rfl);conv=>whnf)
    (split<;>rename_i hb<;>(try rw [hb])<;>(conv=>whnf))
    ·have hge:0≤cmpL set[i-1] set[i]:=by simpa using hb
     repeat first | refine W1 ?_ | refine W3 ?_ | ((first | refine W2 hT hM [] ?_ | refine W4 ?_ | refine W5 ?_ | refine W6 ?_ | refine W7 ?_ rfl);conv=>whnf)
     rw [GK]
     intro h
     have:=List.pairwise_iff_getElem.1 h.1 (i-1) i (by omega) hlt (by omega)
     omega
    ·have hge:cmpL set[i-1] set[i]<0:=by simpa using hb
     have hprev:∀ (h:1≤i),cmpL set[i-1] set[i]<0:=fun _=>hge
     clear hb
     repeat first | refine W1 ?_ | refine W3 ?_ | ((first | refine W2 hT hM [] ?_ | refine W4 ?_ | refine W5 ?_ | refine W6 ?_ | refine W7 ?_ rfl);conv=>whnf)
     refine WP.loop (α:=Nat) (fun k=>⟨[(0,.d (.list (set.map enL))),(3,.d (.int .i64 i)),(4,.d (.int .i64 k))],[],[]⟩) (fun k=>1≤k∧(k≤set[i].length∨k=1)∧∀ q (h:q+1<set[i].length),q+1<k→set[i][q]<set[i][q+1]) (fun k=>set[i].length-k) 1 [] [] ?_ ?_ ?_
     ·((conv=>whnf);repeat (first | exact True.intro | (refine And.intro (by first | rfl | exact ⟨rfl,rfl,rfl⟩ | exact ⟨rfl,rfl,by simp⟩ | exact ⟨rfl,rfl⟩ | exact ⟨rfl,by simp⟩ | (simp;done) | (simp;omega)) ?_;conv=>whnf)))
     ·exact ⟨Nat.le_refl _,.inr rfl,fun q h hq=>by omega⟩
     ·rintro k ⟨hk1,hk2,hk3⟩
      repeat first | refine W1 ?_ | refine W3 ?_ | ((first | refine W2 hT hM [] ?_ | refine W4 ?_ | refine W5 ?_ | refine W6 ?_ | refine W7 ?_ rfl);conv=>whnf)
      refine ⟨by omega,_,bn hlt,rfl,?_⟩
      conv=>whnf
      repeat first | refine W1 ?_ | refine W3 ?_ | ((first | refine W2 hT hM [] ?_ | refine W4 ?_ | refine W5 ?_ | refine W6 ?_ | refine W7 ?_ rfl);conv=>whnf)
      (split<;>rename_i hb<;>(try rw [hb])<;>(conv=>whnf))
      ·have hkl:k<set[i].length:=by simpa using hb
       clear hb
       repeat first | refine W1 ?_ | refine W3 ?_ | ((first | refine W2 hT hM [] ?_ | refine W4 ?_ | refine W5 ?_ | refine W6 ?_ | refine W7 ?_ rfl);conv=>whnf)
       refine ⟨by omega,_,bn hlt,rfl,?_⟩
       conv=>whnf
       refine ⟨(by first | (simp;done) | (simp;omega)),_,bn hkl,rfl,?_⟩
       conv=>whnf
       refine ⟨by omega,_,bn hlt,rfl,?_⟩
       conv=>whnf
       refine ⟨by omega,?_⟩
       conv=>whnf
       refine ⟨(by first | (simp;done) | (simp;omega)),_,zJ hk1 (by omega),rfl,?_⟩
       conv=>whnf
       repeat first | refine W1 ?_ | refine W3 ?_ | ((first | refine W2 hT hM [] ?_ | refine W4 ?_ | refine W5 ?_ | refine W6 ?_ | refine W7 ?_ rfl);conv=>whnf)
       (split<;>rename_i hb<;>(try rw [hb])<;>(conv=>whnf))
       ·have hle:set[i][k]≤set[i][k-1]:=by simpa using hb
        repeat first | refine W1 ?_ | refine W3 ?_ | ((first | refine W2 hT hM [] ?_ | refine W4 ?_ | refine W5 ?_ | refine W6 ?_ | refine W7 ?_ rfl);conv=>whnf)
        rw [GK]
        intro h
        have:=List.pairwise_iff_getElem.1 (h.2 _ (List.getElem_mem hlt)) (k-1) k (by omega) hkl (by omega)
        omega
       ·have hle:set[i][k-1]<set[i][k]:=by simpa using hb
        clear hb
        repeat first | refine W1 ?_ | refine W3 ?_ | ((first | refine W2 hT hM [] ?_ | refine W4 ?_ | refine W5 ?_ | refine W6 ?_ | refine W7 ?_ rfl);conv=>whnf)
        refine ⟨by omega,?_⟩
        conv=>whnf
        refine ⟨k+1,[],[],?_,⟨by omega,.inl (by omega),fun q h hq=>?_⟩,by omega⟩
        ·((conv=>whnf);repeat (first | exact True.intro | (refine And.intro (by first | rfl | exact ⟨rfl,rfl,rfl⟩ | exact ⟨rfl,rfl,by simp⟩ | exact ⟨rfl,rfl⟩ | exact ⟨rfl,by simp⟩ | (simp;done) | (simp;omega)) ?_;conv=>whnf)))
        ·rcases Nat.lt_or_ge (q+1) k with h1 | h1
         ·exact hk3 q h h1
         ·obtain rfl:k=q+1:=by omega
          simpa using hle
      ·have hkl:set[i].length≤k:=by simp at hb;omega
       clear hb
       repeat first | refine W1 ?_ | refine W3 ?_ | ((first | refine W2 hT hM [] ?_ | refine W4 ?_ | refine W5 ?_ | refine W6 ?_ | refine W7 ?_ rfl);conv=>whnf)
       refine ⟨by omega,?_⟩
       conv=>whnf
       refine ⟨i+1,[],[],?_,⟨by omega,?_⟩,by omega⟩
       ·((conv=>whnf);repeat (first | exact True.intro | (refine And.intro (by first | rfl | exact ⟨rfl,rfl,rfl⟩ | exact ⟨rfl,rfl,by simp⟩ | exact ⟨rfl,rfl⟩ | exact ⟨rfl,by simp⟩ | (simp;done) | (simp;omega)) ?_;conv=>whnf)))
       ·refine ⟨fun j h hj=>?_,fun j h hj=>?_⟩
        ·rcases Nat.lt_or_ge (j+1) i with h1 | h1
         ·exact hasc.1 j h h1
         ·obtain rfl:i=j+1:=by omega
          exact hprev (by omega)
        ·rcases Nat.lt_or_ge j i with h1 | h1
         ·exact hasc.2 j h h1
         ·obtain rfl:j=i:=by omega
          exact fQ (R:=fun a b:Int=>a<b) (fun a b c=>Int.lt_trans) fun q hq=>hk3 q hq (by omega)
   ·have hi0:i=0:=by simp at hb;omega
    subst hi0
    have hprev:∀ (h:1≤0),cmpL set[0-1] set[0]<0:=fun h=>by omega
    clear hb
    repeat first | refine W1 ?_ | refine W3 ?_ | ((first | refine W2 hT hM [] ?_ | refine W4 ?_ | refine W5 ?_ | refine W6 ?_ | refine W7 ?_ rfl);conv=>whnf)
    refine WP.loop (α:=Nat) (fun k=>⟨[(0,.d (.list (set.map enL))),(3,.d (.int .i64 0)),(4,.d (.int .i64 k))],[],[]⟩) (fun k=>1≤k∧(k≤set[0].length∨k=1)∧∀ q (h:q+1<set[0].length),q+1<k→set[0][q]<set[0][q+1]) (fun k=>set[0].length-k) 1 [] [] ?_ ?_ ?_
    ·((conv=>whnf);repeat (first | exact True.intro | (refine And.intro (by first | rfl | exact ⟨rfl,rfl,rfl⟩ | exact ⟨rfl,rfl,by simp⟩ | exact ⟨rfl,rfl⟩ | exact ⟨rfl,by simp⟩ | (simp;done) | (simp;omega)) ?_;conv=>whnf)))
    ·exact ⟨Nat.le_refl _,.inr rfl,fun q h hq=>by omega⟩
    ·rintro k ⟨hk1,hk2,hk3⟩
     repeat first | refine W1 ?_ | refine W3 ?_ | ((first | refine W2 hT hM [] ?_ | refine W4 ?_ | refine W5 ?_ | refine W6 ?_ | refine W7 ?_ rfl);conv=>whnf)
     refine ⟨by omega,_,bn hlt,rfl,?_⟩
     conv=>whnf
     repeat first | refine W1 ?_ | refine W3 ?_ | ((first | refine W2 hT hM [] ?_ | refine W4 ?_ | refine W5 ?_ | refine W6 ?_ | refine W7 ?_ rfl);conv=>whnf)
     (split<;>rename_i hb<;>(try rw [hb])<;>(conv=>whnf))
     ·have hkl:k<set[0].length:=by simpa using hb
      clear hb
      repeat first | refine W1 ?_ | refine W3 ?_ | ((first | refine W2 hT hM [] ?_ | refine W4 ?_ | refine W5 ?_ | refine W6 ?_ | refine W7 ?_ rfl);conv=>whnf)
      refine ⟨by omega,_,bn hlt,rfl,?_⟩
      conv=>whnf
      refine ⟨(by first | (simp;done) | (simp;omega)),_,bn hkl,rfl,?_⟩
      conv=>whnf
      refine ⟨by omega,_,bn hlt,rfl,?_⟩
      conv=>whnf
      refine ⟨by omega,?_⟩
      conv=>whnf
      refine ⟨(by first | (simp;done) | (simp;omega)),_,zJ hk1 (by omega),rfl,?_⟩
      conv=>whnf
      repeat first | refine W1 ?_ | refine W3 ?_ | ((first | refine W2 hT hM [] ?_ | refine W4 ?_ | refine W5 ?_ | refine W6 ?_ | refine W7 ?_ rfl);conv=>whnf)
      (split<;>rename_i hb<;>(try rw [hb])<;>(conv=>whnf))
      ·have hle:set[0][k]≤set[0][k-1]:=by simpa using hb
       repeat first | refine W1 ?_ | refine W3 ?_ | ((first | refine W2 hT hM [] ?_ | refine W4 ?_ | refine W5 ?_ | refine W6 ?_ | refine W7 ?_ rfl);conv=>whnf)
       rw [GK]
       intro h
       have:=List.pairwise_iff_getElem.1 (h.2 _ (List.getElem_mem hlt)) (k-1) k (by omega) hkl (by omega)
       omega
      ·have hle:set[0][k-1]<set[0][k]:=by simpa using hb
       clear hb
       repeat first | refine W1 ?_ | refine W3 ?_ | ((first | refine W2 hT hM [] ?_ | refine W4 ?_ | refine W5 ?_ | refine W6 ?_ | refine W7 ?_ rfl);conv=>whnf)
       refine ⟨by omega,?_⟩
       conv=>whnf
       refine ⟨k+1,[],[],?_,⟨by omega,.inl (by omega),fun q h hq=>?_⟩,by omega⟩
       ·((conv=>whnf);repeat (first | exact True.intro | (refine And.intro (by first | rfl | exact ⟨rfl,rfl,rfl⟩ | exact ⟨rfl,rfl,by simp⟩ | exact ⟨rfl,rfl⟩ | exact ⟨rfl,by simp⟩ | (simp;done) | (simp;omega)) ?_;conv=>whnf)))
       ·rcases Nat.lt_or_ge (q+1) k with h1 | h1
        ·exact hk3 q h h1
        ·obtain rfl:k=q+1:=by omega
         simpa using hle
     ·have hkl:set[0].length≤k:=by simp at hb;omega
      clear hb
      repeat first | refine W1 ?_ | refine W3 ?_ | ((first | refine W2 hT hM [] ?_ | refine W4 ?_ | refine W5 ?_ | refine W6 ?_ | refine W7 ?_ rfl);conv=>whnf)
      refine ⟨by omega,?_⟩
      conv=>whnf
      refine ⟨0+1,[],[],?_,⟨by omega,?_⟩,by omega⟩
      ·((conv=>whnf);repeat (first | exact True.intro | (refine And.intro (by first | rfl | exact ⟨rfl,rfl,rfl⟩ | exact ⟨rfl,rfl,by simp⟩ | exact ⟨rfl,rfl⟩ | exact ⟨rfl,by simp⟩ | (simp;done) | (simp;omega)) ?_;conv=>whnf)))
      ·refine ⟨fun j h hj=>?_,fun j h hj=>?_⟩
       ·rcases Nat.lt_or_ge (j+1) 0 with h1 | h1
        ·exact hasc.1 j h h1
        ·exfalso
         omega
       ·rcases Nat.lt_or_ge j 0 with h1 | h1
        ·exact hasc.2 j h h1
        ·obtain rfl:j=0:=by omega
         exact fQ (R:=fun a b:Int=>a<b) (fun a b c=>Int.lt_trans) fun q hq=>hk3 q hq (by omega)
  ·have hii:i=set.length:=by simp at hb;omega
   subst hii
   repeat first | refine W1 ?_ | refine W3 ?_ | ((first | refine W2 hT hM [] ?_ | refine W4 ?_ | refine W5 ?_ | refine W6 ?_ | refine W7 ?_ rfl);conv=>whnf)
   rw [agH (Jp hasc)]
end Go.Proofs.YtdbkblcekmogkaaGreatDoor
namespace Go.Proofs.YtdbkblcekmogkaaGreatDoor
open Go Go.Abs Go.Own
attribute [local irreducible] WP
theorem KF {set:List (List Int)} {n:Int} {j:Nat} (h:j<set.length):bZ (set.take (j+1)) n=(bZ (set.take j) n&&decide (n∈set[j])):=by
 unfold bZ
 rw [List.take_succ_eq_append_getElem h,List.all_append]
 simp
theorem Tryz.QW (set:List (List Int)) (hl:set.length≤12) (hr:∀ r∈set,r.length≤30) :
  Pure Tryz.prog 8 [.list (set.map enL)] [.list (((bJ set.flatten).filter (bZ set)).map enI),.list ((bJ set.flatten).map enI)]:=by
 refine Pure.of_wp hT (nt:=_) (c:=_) Tryz.func8 rfl rfl rfl rfl (by kernel_rfl) ?_
 intro w0 ok0 β0
 repeat first | refine W1 ?_ | refine W3 ?_ | ((first | refine W2 hT hM [] ?_ | refine W4 ?_ | refine W5 ?_ | refine W6 ?_ | refine W7 ?_ rfl);conv=>whnf)
 refine WP.loop (α:=Nat) (fun i=>⟨[(0,.d (.list (set.map enL))),(4,.d (.list (((bJ (set.take i).flatten).filter (bZ set)).map enI))),(5,.d (.list ((bJ (set.take i).flatten).map enI))),(6,.d (.int .i64 i))],[],[]⟩)
  (fun i=>i≤set.length) (fun i=>set.length-i) 0 [] [] ?_ (Nat.zero_le _) ?_
 ·((conv=>whnf);repeat (first | exact True.intro | (refine And.intro (by first | rfl | exact ⟨rfl,rfl,rfl⟩ | exact ⟨rfl,rfl,by simp⟩ | exact ⟨rfl,rfl⟩ | exact ⟨rfl,by simp⟩ | (simp;done) | (simp;omega)) ?_;conv=>whnf)))
 ·intro i hi
  repeat first | refine W1 ?_ | refine W3 ?_ | ((first | refine W2 hT hM [] ?_ | refine W4 ?_ | refine W5 ?_ | refine W6 ?_ | refine W7 ?_ rfl);conv=>whnf)
  (split<;>rename_i hb<;>(try rw [hb])<;>(conv=>whnf))
  ·have hlt:i<set.length:=by simpa using hb
   clear hb
   have hri:=hr _ (List.getElem_mem hlt)
   have hfl:∀ k,((set.take i).flatten++set[i].take k).length≤390:=fun k=>by
    have h1:=fB (set:=set.take i) (m:=30) fun r h=>hr r (List.mem_of_mem_take h)
    have h2:(set.take i).length≤12:=by simp;omega
    simp only [List.length_append,List.length_take]
    omega
   repeat first | refine W1 ?_ | refine W3 ?_ | ((first | refine W2 hT hM [] ?_ | refine W4 ?_ | refine W5 ?_ | refine W6 ?_ | refine W7 ?_ rfl);conv=>whnf)
   refine WP.loop (α:=Nat) (fun k=>⟨[(0,.d (.list (set.map enL))),(4,.d (.list (((bJ ((set.take i).flatten++set[i].take k)).filter (bZ set)).map enI))),(5,.d (.list ((bJ ((set.take i).flatten++set[i].take k)).map enI))),(6,.d (.int .i64 i)),(7,.d (.int .i64 k))],[],[]⟩)
    (fun k=>k≤set[i].length) (fun k=>set[i].length-k) 0 [] [] ?_ (Nat.zero_le _) ?_
   ·rw [List.take_zero,List.append_nil]
    ((conv=>whnf);repeat (first | exact True.intro | (refine And.intro (by first | rfl | exact ⟨rfl,rfl,rfl⟩ | exact ⟨rfl,rfl,by simp⟩ | exact ⟨rfl,rfl⟩ | exact ⟨rfl,by simp⟩ | (simp;done) | (simp;omega)) ?_;conv=>whnf)))
   ·intro k hk
    repeat first | refine W1 ?_ | refine W3 ?_ | ((first | refine W2 hT hM [] ?_ | refine W4 ?_ | refine W5 ?_ | refine W6 ?_ | refine W7 ?_ rfl);conv=>whnf)
    refine ⟨by omega,_,bn hlt,rfl,?_⟩
    conv=>whnf
    repeat first | refine W1 ?_ | refine W3 ?_ | ((first | refine W2 hT hM [] ?_ | refine W4 ?_ | refine W5 ?_ | refine W6 ?_ | refine W7 ?_ rfl);conv=>whnf)
    (split<;>rename_i hb<;>(try rw [hb])<;>(conv=>whnf))
    ·have hkl:k<set[i].length:=by simpa using hb
     clear hb
     repeat first | refine W1 ?_ | refine W3 ?_ | ((first | refine W2 hT hM [] ?_ | refine W4 ?_ | refine W5 ?_ | refine W6 ?_ | refine W7 ?_ rfl);conv=>whnf)
     refine ⟨by omega,_,bn hlt,rfl,?_⟩
     conv=>whnf
     refine ⟨by omega,_,bn hkl,rfl,?_⟩
     conv=>whnf
     repeat first | refine W1 ?_ | refine W3 ?_ | ((first | refine W2 hT hM [] ?_ | refine W4 ?_ | refine W5 ?_ | refine W6 ?_ | refine W7 ?_ rfl);conv=>whnf)
     have htk:((set.take i).flatten++set[i].take k)++[set[i][k]]=(set.take i).flatten++set[i].take (k+1):=by
      rw [List.append_assoc,← List.take_succ_eq_append_getElem hkl]
     have hs':bJ ((set.take i).flatten++set[i].take (k+1))=jD (bJ ((set.take i).flatten++set[i].take k)) set[i][k]:=by rw [← htk,wJ]
     have hsl:(bJ ((set.take i).flatten++set[i].take k)).length≤390:=Nat.le_trans (jc _) (hfl k)
     have hsa:Asc (bJ ((set.take i).flatten++set[i].take k)):=AY _
     have hfs:=Jc (bZ set) hsa set[i][k]
     generalize bJ ((set.take i).flatten++set[i].take k)=s at hs' hsl hsa hfs ⊢
     rw [← hs'] at hfs
     have hal:(s.filter (bZ set)).length≤390:=Nat.le_trans (List.length_filter_le _ _) hsl
     have haa:Asc (s.filter (bZ set)):=List.Pairwise.filter _ hsa
     refine WP.loop (α:=Nat) (fun j=>⟨[(0,.d (.list (set.map enL))),(4,.d (.list ((s.filter (bZ set)).map enI))),(5,.d (.list (s.map enI))),(6,.d (.int .i64 i)),(7,.d (.int .i64 k)),
       (8,.d (.int .i64 set[i][k])),(9,.d (.bool (bZ (set.take j) set[i][k]))),(10,.d (.int .i64 j))],[],[]⟩)
      (fun j=>j≤set.length) (fun j=>set.length-j) 0 [] [] ?_ (Nat.zero_le _) ?_
     ·((conv=>whnf);repeat (first | exact True.intro | (refine And.intro (by first | rfl | exact ⟨rfl,rfl,rfl⟩ | exact ⟨rfl,rfl,by simp⟩ | exact ⟨rfl,rfl⟩ | exact ⟨rfl,by simp⟩ | (simp;done) | (simp;omega)) ?_;conv=>whnf)))
     ·intro j hj
      repeat first | refine W1 ?_ | refine W3 ?_ | ((first | refine W2 hT hM [] ?_ | refine W4 ?_ | refine W5 ?_ | refine W6 ?_ | refine W7 ?_ rfl);conv=>whnf)
      (split<;>rename_i hb<;>(try rw [hb])<;>(conv=>whnf))
      ·have hjl:j<set.length:=by simpa using hb
       clear hb
       repeat first | refine W1 ?_ | refine W3 ?_ | ((first | refine W2 hT hM [] ?_ | refine W4 ?_ | refine W5 ?_ | refine W6 ?_ | refine W7 ?_ rfl);conv=>whnf)
       have hrj:=hr _ (List.getElem_mem hjl)
       have hit:=KF (n:=set[i][k]) hjl
       (split<;>rename_i hb<;>(try rw [hb])<;>(conv=>whnf))
       ·rw [hb,Bool.true_and] at hit
        refine ⟨by omega,_,bn hjl,rfl,?_⟩
        conv=>whnf
        refine .inl ⟨_,Tryz.Uc set[j] set[i][k] (by omega),.inl rfl,?_⟩
        conv=>whnf
        repeat first | refine W1 ?_ | refine W3 ?_ | ((first | refine W2 hT hM [] ?_ | refine W4 ?_ | refine W5 ?_ | refine W6 ?_ | refine W7 ?_ rfl);conv=>whnf)
        refine ⟨by omega,?_⟩
        conv=>whnf
        refine ⟨j+1,[],[],?_,by omega,by omega⟩
        rw [hit]
        ((conv=>whnf);repeat (first | exact True.intro | (refine And.intro (by first | rfl | exact ⟨rfl,rfl,rfl⟩ | exact ⟨rfl,rfl,by simp⟩ | exact ⟨rfl,rfl⟩ | exact ⟨rfl,by simp⟩ | (simp;done) | (simp;omega)) ?_;conv=>whnf)))
       ·rw [hb,Bool.false_and] at hit
        repeat first | refine W1 ?_ | refine W3 ?_ | ((first | refine W2 hT hM [] ?_ | refine W4 ?_ | refine W5 ?_ | refine W6 ?_ | refine W7 ?_ rfl);conv=>whnf)
        refine ⟨by omega,?_⟩
        conv=>whnf
        refine ⟨j+1,[],[],?_,by omega,by omega⟩
        rw [hit]
        ((conv=>whnf);repeat (first | exact True.intro | (refine And.intro (by first | rfl | exact ⟨rfl,rfl,rfl⟩ | exact ⟨rfl,rfl,by simp⟩ | exact ⟨rfl,rfl⟩ | exact ⟨rfl,by simp⟩ | (simp;done) | (simp;omega)) ?_;conv=>whnf)))
      ·have hjl:j=set.length:=by simp at hb;omega
       subst hjl
       clear hb
       rw [List.take_length]
       repeat first | refine W1 ?_ | refine W3 ?_ | ((first | refine W2 hT hM [] ?_ | refine W4 ?_ | refine W5 ?_ | refine W6 ?_ | refine W7 ?_ rfl);conv=>whnf)
       by_cases hxs:set[i][k]∈s
       ·have hadd:jD s set[i][k]=s:=by rw [jD,if_pos hxs]
        have hin:=Tryz.Uc s set[i][k] (by omega)
        rw [decide_eq_true hxs] at hin
        rw [hadd] at hs'
        rw [hs'] at hfs
        have hfx:(bJ ((set.take i).flatten++set[i].take (k+1))).filter (bZ set)=s.filter (bZ set):=by rw [hs']
        (split<;>rename_i hb<;>(try rw [hb])<;>(conv=>whnf))
        ·have hxa:set[i][k]∈s.filter (bZ set):=List.mem_filter.2 ⟨hxs,hb⟩
         have hina:=Tryz.Uc (s.filter (bZ set)) set[i][k] (by omega)
         rw [decide_eq_true hxa] at hina
         refine .inl ⟨_,hina,.inl rfl,?_⟩
         conv=>whnf
         repeat first | refine W1 ?_ | refine W3 ?_ | ((first | refine W2 hT hM [] ?_ | refine W4 ?_ | refine W5 ?_ | refine W6 ?_ | refine W7 ?_ rfl);conv=>whnf)
         refine .inl ⟨_,hin,.inl rfl,?_⟩
         conv=>whnf
         repeat first | refine W1 ?_ | refine W3 ?_ | ((first | refine W2 hT hM [] ?_ | refine W4 ?_ | refine W5 ?_ | refine W6 ?_ | refine W7 ?_ rfl);conv=>whnf)
         refine ⟨by omega,?_⟩
         conv=>whnf
         refine ⟨k+1,[],[],?_,by omega,by omega⟩
         rw [hs']
         ((conv=>whnf);repeat (first | exact True.intro | (refine And.intro (by first | rfl | exact ⟨rfl,rfl,rfl⟩ | exact ⟨rfl,rfl,by simp⟩ | exact ⟨rfl,rfl⟩ | exact ⟨rfl,by simp⟩ | (simp;done) | (simp;omega)) ?_;conv=>whnf)))
        ·repeat first | refine W1 ?_ | refine W3 ?_ | ((first | refine W2 hT hM [] ?_ | refine W4 ?_ | refine W5 ?_ | refine W6 ?_ | refine W7 ?_ rfl);conv=>whnf)
         refine .inl ⟨_,hin,.inl rfl,?_⟩
         conv=>whnf
         repeat first | refine W1 ?_ | refine W3 ?_ | ((first | refine W2 hT hM [] ?_ | refine W4 ?_ | refine W5 ?_ | refine W6 ?_ | refine W7 ?_ rfl);conv=>whnf)
         refine ⟨by omega,?_⟩
         conv=>whnf
         refine ⟨k+1,[],[],?_,by omega,by omega⟩
         rw [hs']
         ((conv=>whnf);repeat (first | exact True.intro | (refine And.intro (by first | rfl | exact ⟨rfl,rfl,rfl⟩ | exact ⟨rfl,rfl,by simp⟩ | exact ⟨rfl,rfl⟩ | exact ⟨rfl,by simp⟩ | (simp;done) | (simp;omega)) ?_;conv=>whnf)))
       ·have hadd:jD s set[i][k]=ins s set[i][k]:=by rw [jD,if_neg hxs]
        have hin:=Tryz.Uc s set[i][k] (by omega)
        rw [decide_eq_false hxs] at hin
        have hinss:=Tryz.IE s set[i][k] (by omega) hsa
        rw [← hadd] at hinss
        have hxa:set[i][k]∉s.filter (bZ set):=fun h=>hxs (List.mem_filter.1 h).1
        have hina:=Tryz.Uc (s.filter (bZ set)) set[i][k] (by omega)
        rw [decide_eq_false hxa] at hina
        have hinsa:=Tryz.IE (s.filter (bZ set)) set[i][k] (by omega) haa
        have hadda:jD (s.filter (bZ set)) set[i][k]=ins (s.filter (bZ set)) set[i][k]:=by rw [jD,if_neg hxa]
        rw [← hadda] at hinsa
        (split<;>rename_i hb<;>(try rw [hb])<;>(conv=>whnf))
        ·rw [if_pos hb] at hfs
         refine .inl ⟨_,hina,.inl rfl,?_⟩
         conv=>whnf
         repeat first | refine W1 ?_ | refine W3 ?_ | ((first | refine W2 hT hM [] ?_ | refine W4 ?_ | refine W5 ?_ | refine W6 ?_ | refine W7 ?_ rfl);conv=>whnf)
         refine .inl ⟨_,hinsa,.inl rfl,?_⟩
         conv=>whnf
         repeat first | refine W1 ?_ | refine W3 ?_ | ((first | refine W2 hT hM [] ?_ | refine W4 ?_ | refine W5 ?_ | refine W6 ?_ | refine W7 ?_ rfl);conv=>whnf)
         refine .inl ⟨_,hin,.inl rfl,?_⟩
         conv=>whnf
         repeat first | refine W1 ?_ | refine W3 ?_ | ((first | refine W2 hT hM [] ?_ | refine W4 ?_ | refine W5 ?_ | refine W6 ?_ | refine W7 ?_ rfl);conv=>whnf)
         refine .inl ⟨_,hinss,.inl rfl,?_⟩
         conv=>whnf
         repeat first | refine W1 ?_ | refine W3 ?_ | ((first | refine W2 hT hM [] ?_ | refine W4 ?_ | refine W5 ?_ | refine W6 ?_ | refine W7 ?_ rfl);conv=>whnf)
         refine ⟨by omega,?_⟩
         conv=>whnf
         refine ⟨k+1,[],[],?_,by omega,by omega⟩
         rw [hfs,hs']
         ((conv=>whnf);repeat (first | exact True.intro | (refine And.intro (by first | rfl | exact ⟨rfl,rfl,rfl⟩ | exact ⟨rfl,rfl,by simp⟩ | exact ⟨rfl,rfl⟩ | exact ⟨rfl,by simp⟩ | (simp;done) | (simp;omega)) ?_;conv=>whnf)))
        ·rw [if_neg (by rw [hb];simp)] at hfs
         repeat first | refine W1 ?_ | refine W3 ?_ | ((first | refine W2 hT hM [] ?_ | refine W4 ?_ | refine W5 ?_ | refine W6 ?_ | refine W7 ?_ rfl);conv=>whnf)
         refine .inl ⟨_,hin,.inl rfl,?_⟩
         conv=>whnf
         repeat first | refine W1 ?_ | refine W3 ?_ | ((first | refine W2 hT hM [] ?_ | refine W4 ?_ | refine W5 ?_ | refine W6 ?_ | refine W7 ?_ rfl);conv=>whnf)
         refine .inl ⟨_,hinss,.inl rfl,?_⟩
         conv=>whnf
         repeat first | refine W1 ?_ | refine W3 ?_ | ((first | refine W2 hT hM [] ?_ | refine W4 ?_ | refine W5 ?_ | refine W6 ?_ | refine W7 ?_ rfl);conv=>whnf)
         refine ⟨by omega,?_⟩
         conv=>whnf
         refine ⟨k+1,[],[],?_,by omega,by omega⟩
         rw [hfs,hs']
         ((conv=>whnf);repeat (first | exact True.intro | (refine And.intro (by first | rfl | exact ⟨rfl,rfl,rfl⟩ | exact ⟨rfl,rfl,by simp⟩ | exact ⟨rfl,rfl⟩ | exact ⟨rfl,by simp⟩ | (simp;done) | (simp;omega)) ?_;conv=>whnf)))
    ·have hkl:k=set[i].length:=by simp at hb;omega
     subst hkl
     repeat first | refine W1 ?_ | refine W3 ?_ | ((first | refine W2 hT hM [] ?_ | refine W4 ?_ | refine W5 ?_ | refine W6 ?_ | refine W7 ?_ rfl);conv=>whnf)
     refine ⟨by omega,?_⟩
     conv=>whnf
     refine ⟨i+1,[],[],?_,by omega,by omega⟩
     rw [List.take_length,← mV hlt]
     ((conv=>whnf);repeat (first | exact True.intro | (refine And.intro (by first | rfl | exact ⟨rfl,rfl,rfl⟩ | exact ⟨rfl,rfl,by simp⟩ | exact ⟨rfl,rfl⟩ | exact ⟨rfl,by simp⟩ | (simp;done) | (simp;omega)) ?_;conv=>whnf)))
  ·have hii:i=set.length:=by simp at hb;omega
   subst hii
   repeat first | refine W1 ?_ | refine W3 ?_ | ((first | refine W2 hT hM [] ?_ | refine W4 ?_ | refine W5 ?_ | refine W6 ?_ | refine W7 ?_ rfl);conv=>whnf)
   rw [List.take_length]
end Go.Proofs.YtdbkblcekmogkaaGreatDoor
namespace Go.Proofs.YtdbkblcekmogkaaGreatDoor
open Go Go.Abs Go.Own Go.RowKit
theorem gK {ok:Nat→Prop} {w:World} {v:Value} {b:Bool} (h:xW ok w v [.bool b]):v = .bool b:=by cases h;rfl
theorem Mc {ok:Nat→Prop} {w:World} {v:Value} {a b:D} (h:xW ok w v [a,b]):∃ u1 u2,v = .tuple #[u1,u2]∧RdD ok w u1 a∧RdD ok w u2 b:=by
 obtain ⟨vs,rfl,hs,hr⟩:=h
 have h2:vs.size=2:=hs
 refine ⟨vs[0],vs[1],?_,hr 0 _ _ (by simp) rfl,hr 1 _ _ (by simp) rfl⟩
 congr 1
 apply Array.ext (by simpa using h2)
 intro i h1 h3
 match i,h3 with
 | 0,_=>rfl
 | 1,_=>rfl
theorem Pure.P7 {P:Program} {f:FuncId} {d:D} {rs:List D} (h:Abs.Pure P f [d] rs) {ok:Nat→Prop} {w:World} (hok:∀ b,ok b→b<w.heap.size) {v:Value} (hv:RdD ok w v d) :
  Calls P f #[v] w fun e w'=>∃ r,e = .returned r∧Abs.Frame (fun _ _=>False) w w'∧xW (fun b=>ok b∨(w.heap.size≤b∧b<w'.heap.size)) w' r rs:=
 h.calls ok w #[v] hok rfl fun i u d' hu hd=>by
  match i with
  | 0=>simp at hu hd;subst hu;subst hd;exact hv
  | i+1=>simp at hu
theorem Pure.Xg {P:Program} {f:FuncId} {d1 d2:D} {rs:List D} (h:Abs.Pure P f [d1,d2] rs) {ok:Nat→Prop} {w:World} (hok:∀ b,ok b→b<w.heap.size) {v1 v2:Value} (h1:RdD ok w v1 d1) (h2:RdD ok w v2 d2) :
  Calls P f #[v1,v2] w fun e w'=>∃ r,e = .returned r∧Abs.Frame (fun _ _=>False) w w'∧xW (fun b=>ok b∨(w.heap.size≤b∧b<w'.heap.size)) w' r rs:=
 h.calls ok w #[v1,v2] hok rfl fun i u d' hu hd=>by
  match i with
  | 0=>simp at hu hd;subst hu;subst hd;exact h1
  | 1=>simp at hu hd;subst hu;subst hd;exact h2
  | i+2=>simp at hu
theorem Frame.eY {w0 w w':World} (h:Abs.Frame (fun _ _=>False) w0 w) (k:Abs.Frame (fun _ _=>False) w w'):Abs.Frame (fun _ _=>False) w0 w':=h.BN k
theorem RdD.later {ok:Nat→Prop} {w w':World} (hok:∀ b,ok b→b<w.heap.size) (hf:Abs.Frame (fun _ _=>False) w w') {v:Value} {d:D} (h:RdD ok w v d):RdD ok w' v d:=
 h.mono (fun b hb=>hf.fE b (hok b hb)) (fun _ h=>h)
theorem RdD.up {ok:Nat→Prop} {w w':World} (hok:∀ b,ok b→b<w.heap.size) (hf:Abs.Frame (fun _ _=>False) w w') {v:Value} {d:D} (h:RdD ok w v d):RdD (fun b=>b<w'.heap.size) w' v d:=
 h.mono (fun b hb=>hf.fE b (hok b hb)) (fun b hb=>Nat.lt_of_lt_of_le (hok b hb) hf.size)
theorem RdD.new {ok:Nat→Prop} {w w':World} (hok:∀ b,ok b→b<w.heap.size) (hf:Abs.Frame (fun _ _=>False) w w') {v:Value} {d:D} (h:RdD (fun b=>ok b∨(w.heap.size≤b∧b<w'.heap.size)) w' v d):RdD (fun b=>b<w'.heap.size) w' v d:=
 h.mono (fun _ _=>rfl) (fun b hb=>hb.elim (fun h=>Nat.lt_of_lt_of_le (hok b h) hf.size) (fun h=>h.2))
theorem Kz {ok:Nat→Prop} {w:World} {v:Value} {xs:List D} (h:RdD ok w v (.list xs)):∃ a c,v = .slice a xs.length c:=by
 cases h with
 | lV a=>exact ⟨_,_,rfl⟩
 | lst a cap sz xs us=>exact ⟨_,_,rfl⟩
set_option maxHeartbeats 4000000 in
set_option maxRecDepth 100000 in
theorem Tryz.law (W:World) (ok:Nat→Prop) (hok:∀ b,ok b→b<W.heap.size) (v0 v1:Value) (set:List (List Int)) (state:List Int) (h0:RdD ok W v0 (.list (set.map enL))) (h1:RdD ok W v1 (.list (state.map enI)))
  (alive:∀ w,Abs.Frame (fun _ _=>False) W w→Calls Tryz.prog 6 #[] w fun e w'=>e = .returned (.bool true)∧Abs.Frame (fun _ _=>False) w w') :
  Calls Tryz.prog 3 #[v0,v1] W fun e w'=>e = .returned (.bool true)∧Abs.Frame (fun _ _=>False) W w':=by
 obtain ⟨a1,c1,hv⟩:=Kz h1
 rw [List.length_map] at hv
 subst hv
 go_enter Tryz.func3,Tryz.ntmps3
 cases hfew:La set with
 | false=>
   have hc:=Pure.P7 (hfew ▸ Tryz.few set) hok h0
   go_wp2_with (first
    | (go_at_call 4;refine hc.mono ?_;rintro e w1 ⟨r,rfl,hf,hr⟩;obtain rfl:=gK hr)
    | (go_at_call 6;refine (alive _ hf).mono ?_;rintro e w2 ⟨rfl,hf2⟩))
   go_ret
   exact ⟨rfl,Frame.eY hf hf2⟩
 | true=>
   have hc:=Pure.P7 (hfew ▸ Tryz.few set) hok h0
   have hl:set.length≤12:=by
    have:=hfew
    simp only [La,Bool.and_eq_true,decide_eq_true_eq] at this
    exact this.1
   have hrl:∀ r∈set,r.length≤30:=by
    have:=hfew
    simp only [La,Bool.and_eq_true,List.all_eq_true,decide_eq_true_eq] at this
    exact this.2
   by_cases hst:state.length≤30
   ·cases hasc:ZF set with
    | false=>
      go_wp2_with (first
       | (go_at_call 4;refine hc.mono ?_;rintro e w1 ⟨r,rfl,hf,hr⟩;obtain rfl:=gK hr)
       | (go_at_call 5;refine (Pure.P7 (hasc ▸ Tryz.ascending set hl hrl) (fun b hb=>Nat.lt_of_lt_of_le (hok b hb) hf.size) (RdD.later hok hf h0)).mono ?_;rintro e w2 ⟨r2,rfl,hf1,hr2⟩;obtain rfl:=gK hr2)
       | (go_at_call 6;refine (alive _ (Frame.eY hf hf1)).mono ?_;rintro e w3 ⟨rfl,hf2⟩))
      go_ret
      exact ⟨rfl,Frame.eY (Frame.eY hf hf1) hf2⟩
    | true=>
      have hA:Q5 set∧∀ r∈set,Asc r:=Classical.byContradiction fun h=>by rw [GK h] at hasc;cases hasc
      have hlt:∀ (w:World) (b:Nat),b<w.heap.size→b<w.heap.size:=fun _ _ h=>h
      have hr1:∀ r∈set,r.length≤1000000:=fun r hr=>(by have:=hrl r hr;omega)
      have hfl:set.flatten.length≤360:=Nat.le_trans (fB hrl) (by omega)
      have hsl:(bJ set.flatten).length≤1000000:=Nat.le_trans (jc _) (by omega)
      have hal:((bJ set.flatten).filter (bZ set)).length≤1000000:=Nat.le_trans (List.length_filter_le _ _) hsl
      have i1:=Tryz.ints ((bJ set.flatten).filter (bZ set)) ((bJ set.flatten).filter (bZ set)) hal hal
      have i2:=Tryz.ints (bJ set.flatten) (bJ set.flatten) hsl hsl
      rw [beq_self_eq_true] at i1 i2
      go_wp2_with (first
       | (go_at_call 4;refine hc.mono ?_;rintro e w1 ⟨r,rfl,hf,hr⟩;obtain rfl:=gK hr)
       | (go_at_call 5;refine (Pure.P7 (hasc ▸ Tryz.ascending set hl hrl) (fun b hb=>Nat.lt_of_lt_of_le (hok b hb) hf.size) (RdD.later hok hf h0)).mono ?_;rintro e w2 ⟨r2,rfl,hf1,hr2⟩;obtain rfl:=gK hr2;have g0:=RdD.up hok (Frame.eY hf hf1) h0;have g1:=RdD.up hok (Frame.eY hf hf1) h1)
       | (go_at_call 7;refine (Pure.P7 (Tryz.certain set hl hrl hA.2) (hlt _) g0).mono ?_;rintro e w3 ⟨r3,rfl,hf3,hr3⟩;obtain ⟨u1,u2,rfl,k1,k2⟩:=Mc hr3;replace k1:=RdD.new (hlt _) hf3 k1;replace k2:=RdD.new (hlt _) hf3 k2;replace g0:=RdD.up (hlt _) hf3 g0;replace g1:=RdD.up (hlt _) hf3 g1)
       | (go_at_call 8;refine (Pure.P7 (Tryz.QW set hl hrl) (hlt _) g0).mono ?_;rintro e w4 ⟨r4,rfl,hf4,hr4⟩;obtain ⟨u3,u4,rfl,k3,k4⟩:=Mc hr4;replace k3:=RdD.new (hlt _) hf4 k3;replace k4:=RdD.new (hlt _) hf4 k4;replace k1:=RdD.up (hlt _) hf4 k1;replace k2:=RdD.up (hlt _) hf4 k2;replace g0:=RdD.up (hlt _) hf4 g0;replace g1:=RdD.up (hlt _) hf4 g1)
       | (go_at_call 6;refine (alive _ (Frame.eY (Frame.eY (Frame.eY hf hf1) hf3) hf4)).mono ?_;rintro e w5 ⟨rfl,hf5⟩;replace k1:=RdD.up (hlt _) hf5 k1;replace k2:=RdD.up (hlt _) hf5 k2;replace k3:=RdD.up (hlt _) hf5 k3;replace k4:=RdD.up (hlt _) hf5 k4;replace g0:=RdD.up (hlt _) hf5 g0;replace g1:=RdD.up (hlt _) hf5 g1)
       | (go_at_call 9;refine (Pure.Xg (Tryz.F7 set state (by omega) hr1 (by omega) hA.1) (hlt _) g0 g1).mono ?_;rintro e w6 ⟨r6,rfl,hf6,hr6⟩;obtain rfl:=gK hr6;replace k1:=RdD.up (hlt _) hf6 k1;replace k2:=RdD.up (hlt _) hf6 k2;replace k3:=RdD.up (hlt _) hf6 k3;replace k4:=RdD.up (hlt _) hf6 k4;replace g0:=RdD.up (hlt _) hf6 g0;replace g1:=RdD.up (hlt _) hf6 g1)
       | (go_at_call 10;refine (Pure.Xg (Tryz.Ls set state (by omega) hr1 (by omega)) (hlt _) g0 g1).mono ?_;rintro e w7 ⟨r7,rfl,hf7,hr7⟩;obtain rfl:=gK hr7;replace k1:=RdD.up (hlt _) hf7 k1;replace k2:=RdD.up (hlt _) hf7 k2;replace k3:=RdD.up (hlt _) hf7 k3;replace k4:=RdD.up (hlt _) hf7 k4)
       | (go_at_call 11;have _h8:=hf8;refine (Pure.Xg i2 (hlt _) k2 k4).mono ?_;rintro e w9 ⟨r9,rfl,hf9,hr9⟩;obtain rfl:=gK hr9)
       | (go_at_call 11;refine (Pure.Xg i1 (hlt _) k1 k3).mono ?_;rintro e w8 ⟨r8,rfl,hf8,hr8⟩;obtain rfl:=gK hr8;replace k2:=RdD.up (hlt _) hf8 k2;replace k4:=RdD.up (hlt _) hf8 k4))
      go_ret
      exact ⟨rfl,Frame.eY (Frame.eY (Frame.eY (Frame.eY (Frame.eY (Frame.eY (Frame.eY (Frame.eY hf hf1) hf3) hf4) hf5) hf6) hf7) hf8) hf9⟩
   ·go_wp2_with (first
     | (go_at_call 4;refine hc.mono ?_;rintro e w1 ⟨r,rfl,hf,hr⟩;obtain rfl:=gK hr)
     | (go_at_call 6;refine (alive _ hf).mono ?_;rintro e w2 ⟨rfl,hf2⟩))
    go_ret
    exact ⟨rfl,Frame.eY hf hf2⟩
end Go.Proofs.YtdbkblcekmogkaaGreatDoor
