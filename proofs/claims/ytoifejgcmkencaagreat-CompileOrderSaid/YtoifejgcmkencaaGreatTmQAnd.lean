/- Plain laws: the groups. -/
import Derived.Test.YtoifejgcmkencaaGreatTmGAnd
import Derived.Test.YtoifejgcmkencaaGreatOwnTAnd
import Derived.Shelf.Slices.Clone
import Derived.Ground.Names2Prog
set_option linter.unusedVariables false
set_option linter.unusedSimpArgs false
set_option linter.all false
namespace Go.Own
def dAt (d:List (List Bool)) (a b:Nat):Bool:=(((d[a]?).getD [])[b]?).getD false
def iW (l:List Bool) (b:Nat):Bool:=(l[b]?).getD false
def eH (d:List (List Bool)) (a b:Nat):Bool:=decide (a=b)||(dAt d a b&&dAt d b a)
def grp (d:List (List Bool)) (n a:Nat):List Nat:=(List.range n).filter (eH d a)
def nY (d:List (List Bool)) (l:List Bool) (a b:Nat):Bool:=eH d a b||(!dAt d a b||iW l b)
def qx (d:List (List Bool)) (n:Nat) (l:List Bool) (a:Nat):Bool:=(List.range n).all (nY d l a)
def cO (l:List Bool) (g:List Nat):List Bool:=g.foldl (fun l b=>l.set b true) l
def qU (d:List (List Bool)) (n:Nat) (l:List Bool) (a:Nat):Bool:=!iW l a&&qx d n l a
def yP (d:List (List Bool)) (n:Nat):Nat→List Bool→List (List Nat)→List (List Nat)
 | 0,_,out=>out
 | k+1,l,out=>match (List.range n).find? (qU d n l) with
   | none=>out
   | some a=>yP d n k (cO l (grp d n a)) (out++[grp d n a])
def nV (d:List (List Bool)) (n:Nat):List (List Nat):=yP d n (n+1) (List.replicate n false) []
theorem iF:∀ (g:List Nat) (l:List Bool),(cO l g).length=l.length
 | [],l=>rfl
 | b::g,l=>by
   show (cO (l.set b true) g).length=_
   rw [iF g,List.length_set]
theorem TV {l:List Bool} {b x:Nat} (hb:b<l.length):iW (l.set b true) x=(iW l x||decide (b=x)):=by
 unfold iW
 by_cases e:b=x
 ·subst e;rw [List.getElem?_set_self hb];simp
 ·rw [List.getElem?_set_ne e];simp [e]
theorem xC:∀ (g:List Nat) (l:List Bool) (x:Nat),(∀ b∈g,b<l.length)→(iW (cO l g) x=true↔iW l x=true∨x∈g)
 | [],l,x,_=>by simp [cO]
 | b::g,l,x,h=>by
   show iW (cO (l.set b true) g) x=true↔_
   rw [xC g _ x (fun c hc=>by rw [List.length_set];exact h c (by simp [hc])),TV (h b (by simp))]
   simp only [Bool.or_eq_true,decide_eq_true_eq,List.mem_cons]
   constructor
   ·rintro ((h | rfl) | h)
    ·exact .inl h
    ·exact .inr (.inl rfl)
    ·exact .inr (.inr h)
   ·rintro (h | rfl | h)
    ·exact .inl (.inl h)
    ·exact .inl (.inr rfl)
    ·exact .inr h
theorem uG (l:List Bool) (b:Nat):cZ (l.set b true)≤cZ l:=by
 by_cases hb:b<l.length
 ·unfold cZ;rw [List.count_set hb];simp
 ·rw [List.set_eq_of_length_le (by omega)];exact Nat.le_refl _
theorem lY:∀ (g:List Nat) (l:List Bool),cZ (cO l g)≤cZ l
 | [],l=>Nat.le_refl _
 | b::g,l=>Nat.le_trans (lY g (l.set b true)) (uG l b)
theorem iI:∀ (g:List Nat) (l:List Bool) (a:Nat),a∈g→l[a]?=some false→cZ (cO l g)<cZ l
 | b::g,l,a,ha,h=>by
   show cZ (cO (l.set b true) g)<_
   by_cases e:b=a
   ·subst e
    have:=vV h
    have:=lY g (l.set b true)
    omega
   ·have ha':a∈g:=by rcases List.mem_cons.1 ha with h | h;exact absurd h.symm e;exact h
    have:=iI g (l.set b true) a ha' (by rw [List.getElem?_set_ne e];exact h)
    have:=uG l b
    omega
theorem jl {d:List (List Bool)} {n a x:Nat}:x∈grp d n a↔x<n∧eH d a x=true:=by
 unfold grp;rw [List.mem_filter,List.mem_range]
theorem Bo {n:Nat} {m:Rows} {a b:Nat} (ha:a<n) (hb:b<n):dAt (jU n m) a b=E8 m (a:Nat) (b:Nat):=by
 unfold dAt jU wz
 rw [List.getElem?_map,List.getElem?_range ha]
 simp only [Option.map_some,Option.getD_some]
 rw [List.getElem?_map,List.getElem?_range hb];rfl
structure GInv (m:Rows) (n:Nat) (l:List Bool) (out:List (List Nat)):Prop where
 len:l.length=n
 mem:∀ x,x<n→(iW l x=true↔∃ (i:Nat) (g:List Nat),out[i]?=some g∧x∈g)
 lt:∀ (i:Nat) (g:List Nat),out[i]?=some g→∀ x∈g,x<n
 asc:∀ (i:Nat) (g:List Nat),out[i]?=some g→g.Pairwise (·<·)
 dis:∀ (i j:Nat) (g h:List Nat) (x:Nat),out[i]?=some g→out[j]?=some h→x∈g→x∈h→i=j
 ord:∀ (j:Nat) (g:List Nat) (x y:Nat),out[j]?=some g→x∈g→y<n→Rch m x y→∃ (i:Nat) (h:List Nat),i≤j∧out[i]?=some h∧y∈h
theorem GInv.start (m:Rows) (n:Nat):GInv m n (List.replicate n false) [] where
 len:=by simp
 mem x hx:=by
  constructor
  ·intro h
   unfold iW at h
   rw [List.getElem?_replicate,if_pos hx] at h
   cases h
  ·rintro ⟨i,g,h,_⟩;simp at h
 lt i g h:=by simp at h
 asc i g h:=by simp at h
 dis i j g h x h1:=by simp at h1
 ord j g x y h1:=by simp at h1
theorem nI {α:Type} {l:List α} {a x:α} {i:Nat} (h:(l++[a])[i]?=some x):(i<l.length∧l[i]?=some x)∨(i=l.length∧x=a):=by
 rcases Nat.lt_or_ge i l.length with hl | hl
 ·rw [List.getElem?_append_left hl] at h;exact .inl ⟨hl,h⟩
 ·rw [List.getElem?_append_right hl] at h
  rcases Nat.eq_zero_or_pos (i-l.length) with e | e
  ·rw [e] at h;simp at h;exact .inr ⟨by omega,h.symm⟩
  ·have:[a][i-l.length]?=none:=List.getElem?_eq_none (by simp;omega)
   rw [this] at h;cases h
theorem BM {α:Type} {l:List α} {a x:α} {i:Nat} (h:l[i]?=some x):(l++[a])[i]?=some x:=by
 rw [List.getElem?_append_left (List.getElem?_eq_some_iff.1 h).1];exact h
theorem jW {n:Nat} {m:Rows} {a b:Nat} (ha:a<n) (hb:b<n):eH (jU n m) a b=true↔a=b∨(Rch m a b∧Rch m b a):=by
 unfold eH
 rw [Bo ha hb,Bo hb ha]
 simp [kL]
theorem GInv.step {m:Rows} {n:Nat} {l:List Bool} {out:List (List Nat)} (h:GInv m n l out) {a:Nat} (ha:a<n) (hc:qU (jU n m) n l a=true):GInv m n (cO l (grp (jU n m) n a)) (out++[grp (jU n m) n a]):=by
 unfold qU at hc
 simp only [Bool.and_eq_true,Bool.not_eq_true'] at hc
 obtain ⟨h1,h2⟩:=hc
 have hready:∀ b,b<n→eH (jU n m) a b=true∨¬ Rch m a b∨iW l b=true:=fun b hb=>by
  have:=List.all_eq_true.1 h2 b (List.mem_range.2 hb)
  unfold nY at this
  rw [Bo ha hb] at this
  simp only [Bool.or_eq_true,Bool.not_eq_true'] at this
  rcases this with h | h | h
  ·exact .inl h
  ·exact .inr (.inl fun hr=>by rw [kL.2 hr] at h;cases h)
  ·exact .inr (.inr h)
 have hun:¬ iW l a=true:=by rw [h1];simp
 have hnew:∀ x,x∈grp (jU n m) n a→¬ iW l x=true:=fun x hx hl=>by
  obtain ⟨hxn,hs⟩:=jl.1 hx
  rcases (jW ha hxn).1 hs with rfl | ⟨_,hr⟩
  ·exact hun hl
  ·obtain ⟨j,g,hj,hg⟩:=(h.mem x hxn).1 hl
   obtain ⟨i,g',_,hi,hg'⟩:=h.ord j g x a hj hg ha hr
   exact hun ((h.mem a ha).2 ⟨i,g',hi,hg'⟩)
 have hlt:∀ b∈grp (jU n m) n a,b<l.length:=fun b hb=>by rw [h.len];exact (jl.1 hb).1
 refine ⟨by rw [iF];exact h.len,fun x hx=>?_,fun i g hi x hx=>?_,fun i g hi=>?_,fun i j g g' x hi hj hx hx'=>?_,fun j g x y hj hx hy hr=>?_⟩
 ·rw [xC _ _ _ hlt,h.mem x hx]
  constructor
  ·rintro (⟨i,g,hi,hg⟩ | hg)
   ·exact ⟨i,g,BM hi,hg⟩
   ·exact ⟨out.length,_,by simp,hg⟩
  ·rintro ⟨i,g,hi,hg⟩
   rcases nI hi with ⟨_,hi⟩ | ⟨_,rfl⟩
   ·exact .inl ⟨i,g,hi,hg⟩
   ·exact .inr hg
 ·rcases nI hi with ⟨_,hi⟩ | ⟨_,rfl⟩
  ·exact h.lt i g hi x hx
  ·exact (jl.1 hx).1
 ·rcases nI hi with ⟨_,hi⟩ | ⟨_,rfl⟩
  ·exact h.asc i g hi
  ·exact List.Pairwise.filter _ List.pairwise_lt_range
 ·rcases nI hi with ⟨_,hi⟩ | ⟨hi,rfl⟩<;>rcases nI hj with ⟨_,hj⟩ | ⟨hj,rfl⟩
  ·exact h.dis i j g g' x hi hj hx hx'
  ·exact absurd ((h.mem x (jl.1 hx').1).2 ⟨i,g,hi,hx⟩) (hnew x hx')
  ·exact absurd ((h.mem x (jl.1 hx).1).2 ⟨j,g',hj,hx'⟩) (hnew x hx)
  ·omega
 ·rcases nI hj with ⟨_,hj⟩ | ⟨hjj,rfl⟩
  ·obtain ⟨i,g',hij,hi,hg'⟩:=h.ord j g x y hj hx hy hr
   exact ⟨i,g',hij,BM hi,hg'⟩
  ·subst hjj
   obtain ⟨hxn,hs⟩:=jl.1 hx
   have hay:a=x∨Rch m a x:=((jW ha hxn).1 hs).imp id (·.1)
   have hr':Rch m a y:=by
    rcases hay with rfl | h0
    ·exact hr
    ·exact h0.trans hr
   rcases hready y hy with h3 | h3 | h3
   ·exact ⟨out.length,_,Nat.le_refl _,by simp,jl.2 ⟨hy,h3⟩⟩
   ·exact absurd hr' h3
   ·obtain ⟨i,g',hi,hg'⟩:=(h.mem y hy).1 h3
    exact ⟨i,g',Nat.le_of_lt (List.getElem?_eq_some_iff.1 hi).1,BM hi,hg'⟩
theorem filter_lt {α:Type} {p q:α→Bool}:∀ {l:List α},(∀ x∈l,p x=true→q x=true)→(∃ x∈l,q x=true∧p x=false)→(l.filter p).length<(l.filter q).length
 | [],_,⟨x,hx,_⟩=>by cases hx
 | y::l,h,⟨x,hx,h1,h2⟩=>by
   have hle:(l.filter p).length≤(l.filter q).length:=by
    have:∀ l:List α,(∀ x∈l,p x=true→q x=true)→(l.filter p).length≤(l.filter q).length:=fun l=>by
     induction l with
     | nil=>intro _;exact Nat.le_refl _
     | cons z l ih=>
       intro h
       have:=ih fun x hx=>h x (by simp [hx])
       have hz:=h z (by simp)
       rw [List.filter_cons,List.filter_cons]
       cases hp:p z<;>cases hq:q z<;>simp [hp,hq] at hz ⊢<;>omega
    exact this l fun x hx=>h x (by simp [hx])
   have hy:=h y (by simp)
   rw [List.filter_cons,List.filter_cons]
   rcases List.mem_cons.1 hx with rfl | hx
   ·rw [if_pos h1,if_neg (by rw [h2];simp)]
    simp;omega
   ·have ih:=filter_lt (l:=l) (fun x hx=>h x (by simp [hx])) ⟨x,hx,h1,h2⟩
    cases hp:p y<;>cases hq:q y<;>simp [hp,hq] at hy ⊢<;>omega
theorem GInv.all {m:Rows} {n:Nat} {l:List Bool} {out:List (List Nat)} (h:GInv m n l out) (hno:∀ a,a<n→qU (jU n m) n l a=false):∀ x,x<n→iW l x=true:=by
 have key:∀ (k a:Nat),a<n→((List.range n).filter fun b=>decide (a=b)||E8 m (a:Nat) (b:Nat)).length≤k→iW l a=true:=fun k=>by
  induction k with
  | zero=>
    intro a ha hk
    have:a∈(List.range n).filter fun b=>decide (a=b)||E8 m (a:Nat) (b:Nat):=List.mem_filter.2 ⟨List.mem_range.2 ha,by simp⟩
    have:=List.length_pos_of_mem this
    omega
  | succ k ih=>
    intro a ha hk
    refine Classical.byContradiction fun hun=>?_
    have h1:=hno a ha
    unfold qU at h1
    rw [show iW l a=false by simpa using hun] at h1
    simp only [Bool.not_false,Bool.true_and] at h1
    unfold qx at h1
    rw [List.all_eq_false] at h1
    obtain ⟨b,hb,hf⟩:=h1
    have hb:=List.mem_range.1 hb
    unfold nY at hf
    rw [Bo ha hb] at hf
    simp only [Bool.or_eq_true,Bool.not_eq_true',not_or,Bool.not_eq_true,Bool.not_eq_false] at hf
    obtain ⟨f1,f2,f3⟩:=hf
    have hab:=kL.1 f2
    have hns:¬ (a=b∨(Rch m a b∧Rch m b a)):=fun hs=>by rw [(jW ha hb).2 hs] at f1;cases f1
    have hlt:=filter_lt (l:=List.range n) (p:=fun c=>decide (b=c)||E8 m (b:Nat) (c:Nat)) (q:=fun c=>decide (a=c)||E8 m (a:Nat) (c:Nat)) (fun c _ hc=>by
     simp only [Bool.or_eq_true,decide_eq_true_eq,kL] at hc ⊢
     rcases hc with rfl | hc
     ·exact .inr hab
     ·exact .inr (hab.trans hc)) ⟨a,List.mem_range.2 ha,by simp,by
     cases hx:(decide (b=a)||E8 m (b:Nat) (a:Nat)) with
     | false=>rfl
     | true=>
       simp only [Bool.or_eq_true,decide_eq_true_eq,kL] at hx
       rcases hx with rfl | hx
       ·exact absurd (.inl rfl) hns
       ·exact absurd (.inr ⟨hab,hx⟩) hns⟩
    have:=ih b hb (by omega)
    rw [f3] at this;cases this
 exact fun x hx=>key _ x hx (Nat.le_refl _)
theorem sG {n:Nat} {p:Nat→Bool} (h:(List.range n).find? p=none):∀ a,a<n→p a=false:=fun a ha=>by
 have:=List.find?_eq_none.1 h a (List.mem_range.2 ha)
 simpa using this
theorem sF {n a:Nat} {p:Nat→Bool} (h:(List.range n).find? p=some a):a<n∧p a=true:=⟨List.mem_range.1 (List.mem_of_find?_eq_some h),List.find?_some h⟩
theorem JI {m:Rows} {n:Nat}:∀ (k:Nat) (l:List Bool) (out:List (List Nat)),GInv m n l out→cZ l<k→∃ l',GInv m n l' (yP (jU n m) n k l out)∧∀ x,x<n→iW l' x=true
 | 0,l,out,_,h=>by omega
 | k+1,l,out,hi,h=>by
   unfold yP
   cases hf:(List.range n).find? (qU (jU n m) n l) with
   | none=>exact ⟨l,hi,hi.all (sG hf)⟩
   | some a=>
     obtain ⟨ha,hc⟩:=sF hf
     refine JI k _ _ (hi.step ha hc) ?_
     have hun:l[a]?=some false:=by
      unfold qU iW at hc
      simp only [Bool.and_eq_true,Bool.not_eq_true'] at hc
      have hl:a<l.length:=by rw [hi.len];exact ha
      rw [List.getElem?_eq_getElem hl] at hc ⊢
      simpa using hc.1
     have:=iI (grp (jU n m) n a) l a (jl.2 ⟨ha,by simp [eH]⟩) hun
     omega
theorem NK (m:Rows) (n:Nat):∃ l',GInv m n l' (nV (jU n m) n)∧∀ x,x<n→iW l' x=true:=
 JI (n+1) _ _ (GInv.start m n) (by rw [dV];omega)
end Go.Own
namespace Go.Proofs
open Go.Shelf
def Tryz.cloI_ren:Go.Shelf.Ren:=⟨fun | 15=>46 | n=>n,fun | 22=>30 | 3=>3 | 4=>4 | n=>n,fun | n=>n⟩
theorem Tryz.cloI:Go.Proofs.Lays2.n15 Tryz.prog Tryz.cloI_ren:={
 mixed:=by kernel_rfl
 f15:=Tryz.func46.trans (congrArg some (by kernel_rfl))
 t3:=Tryz.underlying3
 a3:=Tryz.isAgg3
 z3:=Tryz.sizeOf3
 v3:=Tryz.zeroValue3
 t4:=Tryz.underlying4
 a4:=Tryz.isAgg4
 z4:=Tryz.sizeOf4
 v4:=Tryz.zeroValue4
 t22:=Tryz.underlying30
 a22:=Tryz.isAgg30
 z22:=Tryz.sizeOf30
 v22:=Tryz.zeroValue30
 i3:=by kernel_rfl }
end Go.Proofs
namespace Go.Proofs.YtoifejgcmkencaaGreat
open Go Go.Abs Go.Own Go.RowKit
attribute [local irreducible] WP
theorem Tryz.aa0 (l:List Int) (hl:l.length≤1000000) :
  Hy Tryz.prog 46 [0] [.sl 0 1 0 l.length] [((0,0),.arr 1 (l.map enI))] [1] [.sl 1 1 0 l.length] [((0,0),.arr 1 (l.map enI)),((1,0),.arr 1 (l.map enI))]:=by
 refine ⟨⟨_,Tryz.func46,by kernel_rfl,rfl⟩,fun k r h=>?_,fun β ok w vs hgl hokb hsz has hpre hsep hinj=>?_⟩
 ·simp only [List.mem_cons,Prod.mk.injEq,List.not_mem_nil,or_false] at h
  rcases h with ⟨_,rfl⟩ | ⟨_,rfl⟩<;>rfl
 obtain ⟨v0,rfl⟩:∃ v0,vs=#[v0]:=by
  have h3:vs.size=1:=hsz
  exact ⟨vs[0],by apply Array.ext (by simpa using h3);intro i h1 h2;match i,h2 with | 0,_=>rfl⟩
 have h0:=has 0 v0 _ rfl rfl
 obtain ⟨hu0,ho0⟩:=hpre (0,0) (.arr 1 (l.map enI)) (by simp)
 have hs0:=fun b=>hsep (0,0) _ b (List.mem_singleton.2 rfl)
 have hone:∀ (i:Nat) x (j:Nat) c,(l.map enI)[i]?=some x→x.cells[j]?=some c→∃ y,l[i]?=some y∧j=0∧c = .int .i64 y:=fun i x j c hx hc=>by
  simp only [List.getElem?_map,Option.map_eq_some_iff] at hx
  obtain ⟨y,hy,rfl⟩:=hx
  cases j with
  | zero=>simp [enI,D.cells] at hc;exact ⟨y,hy,rfl,hc.symm⟩
  | succ j=>simp [enI,D.cells] at hc
 have fin:∀ (v':Value) (w':World),Below w.heap.size w w'→(v' = .slice none 0 0∧l.length=0∨∃ g cap cur T,v' = .slice (some ⟨g,0,none⟩) l.length cap∧w.heap.size≤g∧w'.heap[g]?=some (.cells cur T (0,0))∧l.length≤cap∧cap≤maxLen∧cap*1≤cur.size∧cur.toList.take (l.length*1)=l.map (Value.int .i64)) →
   ∃ v β' ok',Ending.returned v' = .returned v∧(∀ i,i∈[0]→β' i=β i)∧RdV β' (fun i=>i∈[0]∨i∈[1]) ok' w' v (resV [.sl 1 1 0 l.length]) ∧
   (∀ k r,(k,r)∈[(((0,0):Key),Res.arr 1 (l.map enI)),((1,0),.arr 1 (l.map enI))]→(k.1∈[0]∨k.1∈[1])∧Own β' (fun i=>i∈[0]∨i∈[1]) ok' w' k r) ∧
   (∀ k r b,(k,r)∈[(((0,0):Key),Res.arr 1 (l.map enI)),((1,0),.arr 1 (l.map enI))]→aG (β' k.1)=some b→¬ ok' b∧b<w'.heap.size∧(b<w.heap.size→match r with | .cell _=>k.1∈[0]∧tC β [((0,0),.arr 1 (l.map enI))] b k.2 | _=>∀ o,tC β [((0,0),.arr 1 (l.map enI))] b o)) ∧
   (∀ k k' r r' b,(k,r)∈[(((0,0):Key),Res.arr 1 (l.map enI)),((1,0),.arr 1 (l.map enI))]→(k',r')∈[(((0,0):Key),Res.arr 1 (l.map enI)),((1,0),.arr 1 (l.map enI))]→aG (β' k.1)=some b→aG (β' k'.1)=some b→k.1=k'.1) ∧
   (∀ b,ok' b→b<w'.heap.size)∧(∀ b,ok b→ok' b)∧(∀ b,ok' b→ok b∨w.heap.size≤b∨∀ o,tC β [((0,0),.arr 1 (l.map enI))] b o)∧Abs.Frame (tC β [((0,0),.arr 1 (l.map enI))]) w w':=by
  intro v' w' hb hv
  have hβ0:ghost β 1 v' 0=β 0:=by simp [ghost]
  have hβ1:ghost β 1 v' 1=v':=aS _ _ _
  have hk:Keeps ok w w':=fun b hb'=>hb.block b (hokb b hb')
  have hg:∀ b,aG v'=some b→w.heap.size≤b∧b<w'.heap.size:=fun b hbv=>by
   rcases hv with ⟨rfl,_⟩ | ⟨g,cap,cur,T,rfl,h1,h2,_⟩
   ·cases hbv
   ·cases cap<;>simp [aG] at hbv
    subst hbv
    exact ⟨h1,(Array.getElem?_eq_some_iff.1 h2).1⟩
  have hold:∀ b,aG (β 0)=some b→¬ ok b∧b<w.heap.size:=fun b h=>hs0 b h
  refine ⟨v',ghost β 1 v',ok,rfl,fun i hi=>?_,?_,fun k r hm=>?_,fun k r b hm hbk=>?_,fun k k' r r' b hm hm' hbk hbk'=>?_,fun b hb'=>Nat.lt_of_lt_of_le (hokb b hb') hb.size,fun b h=>h,fun b h => .inl h,
   ⟨hb.os,hb.tape,hb.output,hb.size,fun b hb' _=>hb.block b hb',fun b c T fz hbc=>⟨c,(hb.block b (Array.getElem?_eq_some_iff.1 hbc).1).trans hbc,rfl,fun _ _=>rfl⟩⟩⟩
  ·simp only [List.mem_singleton] at hi;subst hi;exact hβ0
  ·show RdV _ _ _ _ v' (.sl 1 1 0 l.length)
   rcases hv with ⟨e,h2⟩ | ⟨g,cap,cur,T,e,h1,h2,h3,h4,_⟩
   ·rw [h2]
    have:=RdV.sl (β:=ghost β 1 v') (u:=fun i=>i∈[0]∨i∈[1]) (ok:=ok) (w:=w') 1 1 0 0 0 0 none none (.inr (by simp)) (hβ1.trans e) (by omega) (by simp [maxLen]) (fun h=>by omega)
    rw [Nat.sub_zero,← e] at this;exact this
   ·have:=RdV.sl (β:=ghost β 1 v') (u:=fun i=>i∈[0]∨i∈[1]) (ok:=ok) (w:=w') 1 1 0 l.length l.length cap (some ⟨g,0,none⟩) (some ⟨g,0,none⟩) (.inr (by simp)) (hβ1.trans e) (by omega) h4 (fun _=>⟨g,0,rfl,by simp⟩)
    rw [Nat.sub_zero,← e] at this;exact this
  ·simp only [List.mem_cons,Prod.mk.injEq,List.not_mem_nil,or_false] at hm
   rcases hm with ⟨rfl,rfl⟩ | ⟨rfl,rfl⟩
   ·refine ⟨.inl (by simp),ho0.1,?_⟩
    show bQ ok w' (ghost β 1 v' 0) 1 _
    rw [hβ0]
    exact ho0.2.mono hk (fun _ h=>h) (fun b hb'=>hb.block b (hold b hb').2)
   ·refine ⟨.inr (by simp),rfl,?_⟩
    show bQ ok w' (ghost β 1 v' 1) 1 _
    rw [hβ1]
    rcases hv with ⟨e,h2⟩ | ⟨g,cap,cur,T,e,h1,h2,h3,h4,h5,h6⟩
    ·obtain rfl:l=[]:=List.length_eq_zero_iff.1 h2
     exact ⟨none,0,e,by simp,by simp [maxLen],by decide,fun i x hx=>by simp at hx,fun h=>by omega⟩
    ·refine ⟨_,cap,by rw [List.length_map];exact e,by rw [List.length_map];exact h3,h4,by decide,fun i x hx=>?_,fun _=>⟨g,0,cur,T,rfl,h2,by omega,fun i x j c hx hc=>?_⟩⟩
     ·simp only [List.getElem?_map,Option.map_eq_some_iff] at hx
      obtain ⟨y,_,rfl⟩:=hx;rfl
     ·obtain ⟨y,hy,rfl,rfl⟩:=hone i x j c hx hc
      have hi:=(List.getElem?_eq_some_iff.1 hy).1
      have:(cur.toList.take (l.length*1))[i]?=some (.int .i64 y):=by rw [h6,List.getElem?_map,hy];rfl
      rw [List.getElem?_take_of_lt (by omega)] at this
      exact ⟨.int .i64 y,by simpa using this,.int _ _,rfl,rfl⟩
  ·simp only [List.mem_cons,Prod.mk.injEq,List.not_mem_nil,or_false] at hm
   rcases hm with ⟨rfl,rfl⟩ | ⟨rfl,rfl⟩
   ·simp only [hβ0] at hbk
    obtain ⟨s1,s2⟩:=hold b hbk
    exact ⟨s1,Nat.lt_of_lt_of_le s2 hb.size,fun _ o=>⟨(0,0),_,List.mem_singleton.2 rfl,hbk,trivial⟩⟩
   ·simp only [hβ1] at hbk
    obtain ⟨s1,s2⟩:=hg b hbk
    exact ⟨fun h=>by have:=hokb b h;omega,s2,fun h=>by omega⟩
  ·simp only [List.mem_cons,Prod.mk.injEq,List.not_mem_nil,or_false] at hm hm'
   rcases hm with ⟨rfl,rfl⟩ | ⟨rfl,rfl⟩<;>rcases hm' with ⟨rfl,rfl⟩ | ⟨rfl,rfl⟩
   ·rfl
   ·simp only [hβ0] at hbk
    simp only [hβ1] at hbk'
    have:=(hold b hbk).2
    have:=(hg b hbk').1
    omega
   ·simp only [hβ1] at hbk
    simp only [hβ0] at hbk'
    have:=(hold b hbk').2
    have:=(hg b hbk).1
    omega
   ·rfl
 have own:∀ {w':World} {v':Value},w'.ownsRow w.heap.size 3 1 v' l.length (l.map (Value.int .i64))→(v' = .slice none 0 0∧l.length=0∨∃ g cap cur T,v' = .slice (some ⟨g,0,none⟩) l.length cap∧w.heap.size≤g∧w'.heap[g]?=some (.cells cur T (0,0))∧l.length≤cap∧cap≤maxLen∧cap*1≤cur.size∧cur.toList.take (l.length*1)=l.map (Value.int .i64)):=by
  rintro w' v' ⟨_,⟨rfl,h2⟩ | ⟨g,cap,cur,rfl,h1,h2,h3,h4,h5,h6⟩⟩
  ·exact .inl ⟨rfl,h2⟩
  ·exact .inr ⟨g,cap,cur,_,rfl,h1,h2,h3,h4,by omega,h6⟩
 obtain ⟨_,a0,cap0,e1,e2,e3,e4,e5,e6⟩:=ho0
 have e1:β 0 = .slice a0 (l.map enI).length cap0:=e1
 rw [List.length_map] at e1 e2
 cases h0 with
 | sl _ _ _ _ n cap a1 a q1 q2 q3 q4 q5=>
   rw [e1] at q2
   simp only [Value.slice.injEq] at q2
   obtain ⟨rfl,rfl,rfl⟩:=q2
   rw [Nat.sub_zero]
   rcases Nat.eq_zero_or_pos cap0 with hc | hc
   ·subst hc
    obtain rfl:l=[]:=List.length_eq_zero_iff.1 (by omega)
    cases a with
    | none=>
      refine (Any.slices_Clone_int_nil Tryz.cloI 0 0 w).mono ?_
      rintro e w' ⟨rfl,rfl⟩
      exact fin _ _ (Below.refl _ _) (.inl ⟨rfl,rfl⟩)
    | some a=>
      refine (Any.slices_Clone_int_zero Tryz.cloI a 0 w).mono ?_
      rintro e w' ⟨v',rfl,ho,_,hb⟩
      exact fin _ _ hb (own ho)
   ·obtain ⟨b,o,f1,f2⟩:=q5 hc
    obtain ⟨b',o',cur,T,g1,g2,g3,g4⟩:=e6 hc
    rw [f1] at g1
    simp only [Option.some.injEq,Addr.mk.injEq,and_true] at g1
    obtain ⟨rfl,rfl⟩:=g1
    subst f2
    rw [Nat.zero_mul,Nat.add_zero]
    have hcell:∀ j,j<l.length→w.cell? ⟨b,o+j,none⟩=some (.int .i64 (l.getD j 0)):=fun j hj=>by
     have hx:(l.map enI)[j]?=some (enI l[j]):=by simp [hj]
     obtain ⟨u,k1,k2,_⟩:=g4 j _ 0 (.int .i64 l[j]) hx rfl
     have:u = .int .i64 l[j]:=by cases k2;rfl
     subst this
     rw [cell_of_row w b _ cur T (0,0) g2,show l.getD j 0=l[j] by simp [List.getD,hj],← k1];simp
    refine (Any.slices_Clone_int Tryz.cloI b o l.length cap0 l w (Nat.le_refl _) (by omega) hcell).mono ?_
    rintro e w' ⟨v',rfl,ho,_,hb⟩
    rw [List.take_length] at ho
    exact fin _ _ hb (own ho)
end Go.Proofs.YtoifejgcmkencaaGreat
namespace Go.Proofs.YtoifejgcmkencaaGreat
open Go Go.Abs Go.Own
attribute [local irreducible] WP
def iP (m:Own.Rows):List (List D):=m.map fun r=>r.map enI
theorem rH {m:Own.Rows} {i:Nat} {r:List Int} (h:m[i]?=some r):(iP m)[i]?=some (r.map enI):=by unfold iP;rw [List.getElem?_map,h];rfl
theorem rJ {m:Own.Rows} {i:Nat} (h:i<m.length):m[i]?=some (rowOf m (i:Nat)):=by
 unfold rowOf;rw [show ((i:Nat):Int).toNat=i by omega,List.getElem?_eq_getElem h];rfl
theorem JK (n:Nat) (rules:List Gr):List.replicate n ([]:List D)=iP (bg n (rules.take 0)):=by simp [iP,bg]
theorem VE (m:Own.Rows) (r:Gr) (i:Int):(rowOf (pR m r) i).length≤max (rowOf m i).length ((rowOf m r.1).length+r.2.1.length+r.2.2.length):=by
 unfold rowOf pR
 by_cases e:r.1.toNat=i.toNat
 ·by_cases hl:r.1.toNat<m.length
  ·rw [← e,List.getElem?_set_self hl]
   simp only [Option.getD_some,List.length_append,rowOf]
   omega
  ·rw [List.set_eq_of_length_le (by omega)];omega
 ·rw [List.getElem?_set_ne e];omega
theorem Iu {n k:Nat} {rules:List Gr} (h:∀ r∈rules,r.2.1.length+r.2.2.length≤k) (i:Int):(rowOf (bg n rules) i).length≤rules.length*k:=by
 have key:∀ (l:List Gr) (m:Own.Rows) (b:Nat),(∀ r∈l,r.2.1.length+r.2.2.length≤k)→(∀ i,(rowOf m i).length≤b)→∀ i,(rowOf (l.foldl pR m) i).length≤b+l.length*k:=fun l=>by
  induction l with
  | nil=>intro m b _ hb i;have:=hb i;simpa using this
  | cons r l ih=>
    intro m b hl hb i
    rw [List.foldl_cons]
    have:=ih (pR m r) (b+k) (fun r' hr'=>hl r' (by simp [hr'])) (fun j=>by
     have h1:=VE m r j
     have h2:=hb j
     have h3:=hb r.1
     have h4:=hl r (by simp)
     omega) i
    rw [List.length_cons,Nat.succ_mul]
    omega
 have:=key rules (List.replicate n []) 0 h (fun i=>by
  unfold rowOf
  rw [List.getElem?_replicate]
  split<;>simp) i
 unfold bg;omega
theorem MK (m:Own.Rows) (r:Gr) (h:0≤r.1):(iP m).set r.1.toNat ((rowOf m (r.1.toNat:Nat)).map enI++r.2.1.map enI++r.2.2.map enI)=iP (pR m r):=by
 unfold iP pR
 rw [List.map_set,List.map_append,List.map_append,show ((r.1.toNat:Nat):Int)=r.1 by omega]
noncomputable def vJ (n:Nat) (m:Own.Rows) (a:Nat):List (List D):=(List.range n).map fun k=>if k<a then (wz n m (k:Nat)).map D.bool else []
theorem MS (n:Nat) (m:Own.Rows):List.replicate n ([]:List D)=vJ n m 0:=by
 unfold vJ
 refine List.ext_getElem (by simp) fun i h1 h2=>by simp
theorem QO (n:Nat) (m:Own.Rows):(vJ n m n).map D.list=(jU n m).map fun r => .list (r.map D.bool):=by
 unfold vJ jU
 rw [List.map_map,List.map_map]
 refine List.map_congr_left fun k hk=>?_
 simp [List.mem_range.1 hk]
theorem jv (n:Nat) (m:Own.Rows) (a:Nat):(vJ n m a).length=n:=by simp [vJ]
theorem QN {n:Nat} {m:Own.Rows} {a:Nat} (h:a<n):(vJ n m a).set a ((wz n m (a:Nat)).map D.bool)=vJ n m (a+1):=by
 refine List.ext_getElem (by simp [vJ]) fun i h1 h2=>?_
 rw [List.getElem_set]
 split
 ·rename_i e;subst e;simp [vJ]
 ·rename_i e
  simp only [vJ,List.getElem_map,List.getElem_range]
  by_cases hi:i<a
  ·rw [if_pos hi,if_pos (by omega)]
  ·rw [if_neg hi,if_neg (by omega)]
theorem oC (m:Own.Rows):(iP m).length=m.length:=by simp [iP]
theorem FY {m:Own.Rows} {j:Nat} (h:j<m.length):(iP m).set j ((rowOf m (j:Nat)).map enI)=iP m:=by
 refine List.ext_getElem? fun i=>?_
 by_cases e:j=i
 ·subst e
  rw [List.getElem?_set_self (by rw [oC];exact h),rH (rJ h)]
 ·rw [List.getElem?_set_ne e]
structure Qu (n:Nat) (rules:List Gr):Prop where
 head:∀ r∈rules,0≤r.1∧r.1<n
 body:∀ r∈rules,(∀ x∈r.2.1,0≤x∧x<(n:Int))∧∀ x∈r.2.2,0≤x∧x<(n:Int)
theorem Tryz.dependencies (atoms:List Tm) (rules:List Gr) (hi':Qu atoms.length rules) (hn:atoms.length≤64) (hr:rules.length≤128) (hf:∀ r∈rules,r.2.1.length+r.2.2.length≤16) :
  Pure Tryz.prog 19 [gD atoms rules] [.list ((jU atoms.length (bg atoms.length rules)).map fun r => .list (r.map D.bool))]:=by
 obtain ⟨n,hnn⟩:∃ n,atoms.length=n:=⟨_,rfl⟩
 rw [hnn] at hi' hn ⊢
 refine Pure.of_wp hT (nt:=_) (c:=_) Tryz.func19 rfl rfl rfl rfl (by kernel_rfl) ?_
 intro w0 ok0 β0
 refine W1 ?_
 refine W2 hT hM [] ?_;conv=>whnf
 refine W1 ?_
 refine W2 hT hM [13] ?_;conv=>whnf
 rw [List.length_map,hnn]
 refine ⟨⟨by omega,by omega,by omega,by show ((24:Nat):Int)*(n:Int)≤281474976710656;omega⟩,?_⟩
 rw [Int.toNat_natCast,JK n rules]
 conv=>whnf
 repeat first | refine W1 ?_ | refine W3 ?_ | ((first | refine W2 hT hM [] ?_ | refine W4 ?_ | refine W5 ?_ | refine W6 ?_ | refine W7 ?_ rfl);conv=>whnf)
 have hE:∀ i j,i≤rules.length→(rowOf (bg n (rules.take i)) j).length≤2048:=fun i j hi=>by
  have h1:=Iu (n:=n) (rules:=rules.take i) (k:=16) (fun r hr'=>by have:=hf r (List.mem_of_mem_take hr');omega) j
  rw [List.length_take] at h1
  have h2:min i rules.length*16≤128*16:=Nat.mul_le_mul_right _ (by omega)
  omega
 have hcell:∀ (l:List Int) (y:D),y∈l.map enI→y.cells.length=1:=fun l y hy=>by
  obtain ⟨x,_,rfl⟩:=List.mem_map.1 hy;rfl
 have hlen0:∀ i,(iP (bg n (rules.take i))).length=n:=fun i=>by unfold iP;rw [List.length_map,dL]
 refine WP.loop (α:=Nat) (fun i=>⟨[(1,.d (.ref [.list (atoms.map enT),.list (rules.map enG)] 0)),(3,.rsl 13 n),(15,.d (.list (rules.map enG))),(16,.d (.int .i64 rules.length)),(17,.d (.int .i64 i))],[((13,0),some (.rows 1 (iP (bg n (rules.take i))) none))],[13]⟩)
  (fun i=>i≤rules.length) (fun i=>rules.length-i) 0 [(13,some 13)] [] ?_ ?_ ?_
 ·((conv=>whnf);repeat (first | exact True.intro | (refine And.intro (by first | rfl | exact ⟨rfl,rfl,rfl⟩ | exact ⟨rfl,rfl,by simp⟩ | exact ⟨rfl,rfl⟩ | exact ⟨rfl,by simp⟩ | (simp;done) | (simp;omega)) ?_;conv=>whnf)))
 ·exact Nat.zero_le _
 ·intro i hi
  repeat first | refine W1 ?_ | refine W3 ?_ | ((first | refine W2 hT hM [] ?_ | refine W4 ?_ | refine W5 ?_ | refine W6 ?_ | refine W7 ?_ rfl);conv=>whnf)
  (split<;>rename_i hb<;>(try rw [hb])<;>(conv=>whnf))
  ·have hlt:i<rules.length:=by simpa using hb
   clear hb
   repeat first | refine W1 ?_ | refine W3 ?_ | ((first | refine W2 hT hM [] ?_ | refine W4 ?_ | refine W5 ?_ | refine W6 ?_ | refine W7 ?_ rfl);conv=>whnf)
   refine ⟨by omega,_,bC hlt,rfl,?_⟩
   conv=>whnf
   have hm:=hi'.head rules[i] (List.getElem_mem hlt)
   have hrow:=rJ (m:=bg n (rules.take i)) (i:=rules[i].1.toNat) (by rw [dL];omega)
   refine W2 hT hM [] ?_
   conv=>whnf
   refine ⟨⟨hm.1,hm.2⟩,?_⟩
   conv=>whnf
   refine ⟨_,rH hrow,?_⟩
   conv=>whnf
   refine ⟨_,by rw [List.drop_zero,List.take_length],by omega,?_⟩
   conv=>whnf
   refine ⟨hcell _,?_⟩
   conv=>whnf
   have hlt1:=hE i rules[i].1.toNat (by omega)
   have hlt2:=hf rules[i] (List.getElem_mem hlt)
   refine ⟨by show _*8≤_;rw [List.length_map,List.length_map];omega,?_⟩
   conv=>whnf
   refine ⟨_,by rw [List.drop_zero,← List.length_append,List.take_length],by rw [List.length_append];omega,?_⟩
   conv=>whnf
   refine ⟨hcell _,?_⟩
   conv=>whnf
   refine ⟨by show _*8≤_;rw [List.length_append,List.length_map,List.length_map,List.length_map];omega,?_⟩
   conv=>whnf
   refine ⟨⟨hm.1,hm.2⟩,?_⟩
   conv=>whnf
   refine ⟨⟨by rw [hlen0];omega,rfl⟩,_,by rw [List.drop_zero,← List.length_append,List.take_length],by simp only [List.length_append];omega,?_⟩
   conv=>whnf
   rw [MK _ _ hm.1,← MX hlt]
   repeat first | refine W1 ?_ | refine W3 ?_ | ((first | refine W2 hT hM [] ?_ | refine W4 ?_ | refine W5 ?_ | refine W6 ?_ | refine W7 ?_ rfl);conv=>whnf)
   refine ⟨by omega,?_⟩
   conv=>whnf
   refine ⟨i+1,[(13,some 13)],[],?_,by omega,by omega⟩
   ((conv=>whnf);repeat (first | exact True.intro | (refine And.intro (by first | rfl | exact ⟨rfl,rfl,rfl⟩ | exact ⟨rfl,rfl,by simp⟩ | exact ⟨rfl,rfl⟩ | exact ⟨rfl,by simp⟩ | (simp;done) | (simp;omega)) ?_;conv=>whnf)))
  ·have:i=rules.length:=by simp at hb;omega
   subst this
   rw [List.take_length]
   clear hb
   refine W6 ?_;conv=>whnf
   refine W1 ?_
   refine W2 hT hM [40] ?_;conv=>whnf
   rw [List.length_map,hnn]
   refine ⟨⟨by omega,by omega,by omega,by show ((24:Nat):Int)*(n:Int)≤281474976710656;omega⟩,?_⟩
   rw [Int.toNat_natCast,MS n (bg n rules)]
   conv=>whnf
   repeat first | refine W1 ?_ | refine W3 ?_ | ((first | refine W2 hT hM [] ?_ | refine W4 ?_ | refine W5 ?_ | refine W6 ?_ | refine W7 ?_ rfl);conv=>whnf)
   refine WP.loop (α:=Nat) (fun a=>⟨[(1,.d (.ref [.list (atoms.map enT),.list (rules.map enG)] 0)),(3,.rsl 13 n),(6,.rsl 40 n),(42,.d (.int .i64 n)),(43,.d (.int .i64 a))],[((13,0),some (.rows 1 (iP (bg n rules)) none)),((40,0),some (.rows 1 (vJ n (bg n rules) a) none))],[13,40]⟩)
    (fun a=>a≤n) (fun a=>n-a) 0 [(13,some 13),(40,some 40)] [] ?_ ?_ ?_
   ·((conv=>whnf);repeat (first | exact True.intro | (refine And.intro (by first | rfl | exact ⟨rfl,rfl,rfl⟩ | exact ⟨rfl,rfl,by simp⟩ | exact ⟨rfl,rfl⟩ | exact ⟨rfl,by simp⟩ | (simp;done) | (simp;omega)) ?_;conv=>whnf)))
   ·exact Nat.zero_le _
   ·intro a ha
    repeat first | refine W1 ?_ | refine W3 ?_ | ((first | refine W2 hT hM [] ?_ | refine W4 ?_ | refine W5 ?_ | refine W6 ?_ | refine W7 ?_ rfl);conv=>whnf)
    (split<;>rename_i hb<;>(try rw [hb])<;>(conv=>whnf))
    ·have hlt:a<n:=by simpa using hb
     clear hb
     repeat first | refine W1 ?_ | refine W3 ?_ | ((first | refine W2 hT hM [] ?_ | refine W4 ?_ | refine W5 ?_ | refine W6 ?_ | refine W7 ?_ rfl);conv=>whnf)
     rw [List.length_map,hnn]
     refine ⟨⟨by omega,by omega,by omega,by show ((1:Nat):Int)*(n:Int)≤281474976710656;omega⟩,?_⟩
     rw [Int.toNat_natCast]
     conv=>whnf
     refine ⟨rfl,?_⟩
     conv=>whnf
     refine ⟨by omega,?_⟩
     rw [Int.toNat_natCast]
     conv=>whnf
     refine ⟨⟨by rw [jv];omega,trivial⟩,_,by rw [List.drop_zero,List.take_of_length_le (by simp)],by simp,?_⟩
     conv=>whnf
     repeat first | refine W1 ?_ | refine W3 ?_ | ((first | refine W2 hT hM [] ?_ | refine W4 ?_ | refine W5 ?_ | refine W6 ?_ | refine W7 ?_ rfl);conv=>whnf)
     refine ⟨by omega,?_⟩
     rw [Int.toNat_natCast]
     conv=>whnf
     refine ⟨_,rH (rJ (by rw [dL];omega)),?_⟩
     conv=>whnf
     refine .inr ⟨_,_,_,_,_,_,Tryz.aa0 (rowOf (bg n rules) (a:Nat)) (by have:=hE rules.length (a:Nat) (Nat.le_refl _);rw [List.take_length] at this;omega),[(0,56),(1,57)],[57],by rw [List.length_map];rfl,rfl,?_⟩
     conv=>whnf
     refine ⟨rfl,?_⟩
     conv=>whnf
     have hNX:Own.RowsIn n (bg n rules):=TL hi'.body
     have hrl:∀ j:Int,(rowOf (bg n rules) j).length≤2048:=fun j=>by
      have:=hE rules.length j (Nat.le_refl _);rwa [List.take_length] at this
     rw [show List.replicate n (D.bool false)=(List.replicate n false).map D.bool by simp]
     refine W3 ?_
     refine WP.loop (α:=List Bool×List Int×Nat×Nat) (fun y=>⟨[(1,.d (.ref [.list (atoms.map enT),.list (rules.map enG)] 0)),(3,.rsl 13 n),(6,.rsl 40 n),(7,.d (.int .i64 a)),(8,.sl 57 1 0 y.2.2.1),(42,.d (.int .i64 n)),(43,.d (.int .i64 a))],
       [((13,0),some (.rows 1 (iP (bg n rules)) (some (y.2.2.2,56)))),((56,0),some (.arr 1 ((rowOf (bg n rules) y.2.2.2).map enI))),((40,0),some (.rows 1 ((vJ n (bg n rules) a).set a (y.1.map D.bool)) none)),((57,0),some (.arr 1 (y.2.1.map enI)))],[13,56,40,57]⟩)
      (fun y=>Dfs (bg n rules) n a y.1 (y.2.1.take y.2.2.1)∧y.2.2.1≤y.2.1.length∧y.2.2.1+cZ y.1*2048≤(n+1)*2048∧y.2.2.2<n) (fun y=>cZ y.1*4096+y.2.2.1)
      (List.replicate n false,rowOf (bg n rules) (a:Nat),(rowOf (bg n rules) (a:Nat)).length,a) [(13,some 13),(56,some 56),(40,some 40),(57,some 57)] [] ?_ ?_ ?_
     ·((conv=>whnf);repeat (first | exact True.intro | (refine And.intro (by first | rfl | exact ⟨rfl,rfl,rfl⟩ | exact ⟨rfl,rfl,by simp⟩ | exact ⟨rfl,rfl⟩ | exact ⟨rfl,by simp⟩ | (simp;done) | (simp;omega)) ?_;conv=>whnf)))
     ·refine ⟨by rw [List.take_length];exact Dfs.start _ _ _,Nat.le_refl _,?_,hlt⟩
      have:=hrl (a:Nat)
      simp only [dV];omega
     ·rintro ⟨s,xs,k,j⟩ ⟨hd,hk,hsz,hj⟩
      have hd':=hd
      dsimp only at hd hk hsz hj ⊢
      repeat first | refine W1 ?_ | refine W3 ?_ | ((first | refine W2 hT hM [] ?_ | refine W4 ?_ | refine W5 ?_ | refine W6 ?_ | refine W7 ?_ rfl);conv=>whnf)
      (split<;>rename_i hb<;>(try rw [hb])<;>(conv=>whnf))
      ·have hk0:0<k:=by simpa using hb
       clear hb
       have hx:xs[k-1]?=some xs[k-1]:=List.getElem?_eq_getElem (by omega)
       have htk:xs.take k=xs.take (k-1)++[xs[k-1]]:=by
        have:=List.take_succ_eq_append_getElem (l:=xs) (i:=k-1) (by omega)
        rwa [Nat.sub_add_cancel hk0] at this
       generalize hxe:xs[k-1]=x at hx htk
       have hxm:x∈xs.take k:=by rw [htk];simp
       have hxr:=(hd.todo x hxm).inR hNX
       refine W5 ?_;conv=>whnf
       repeat first | refine W1 ?_ | refine W3 ?_ | ((first | refine W2 hT hM [] ?_ | refine W4 ?_ | refine W5 ?_ | refine W6 ?_ | refine W7 ?_ rfl);conv=>whnf)
       refine ⟨by omega,?_⟩
       rw [show ((k:Nat):Int)-1=((k-1:Nat):Int) by omega]
       conv=>whnf
       refine ⟨by omega,?_⟩
       rw [Int.toNat_natCast]
       conv=>whnf
       refine ⟨_,by rw [Nat.zero_add,List.getElem?_map,hx];rfl,?_⟩
       conv=>whnf
       repeat first | refine W1 ?_ | refine W3 ?_ | ((first | refine W2 hT hM [] ?_ | refine W4 ?_ | refine W5 ?_ | refine W6 ?_ | refine W7 ?_ rfl);conv=>whnf)
       refine ⟨by omega,?_⟩
       rw [show ((k:Nat):Int)-1=((k-1:Nat):Int) by omega]
       conv=>whnf
       refine ⟨by simp only [Option.getD_none,Option.getD_some];omega,?_⟩
       conv=>whnf
       refine WP.weak (l':=⟨[(1,.d (.ref [.list (atoms.map enT),.list (rules.map enG)] 0)),(3,.rsl 13 n),(6,.rsl 40 n),(7,.d (.int .i64 a)),(8,.sl 57 1 0 (k-1)),(9,.d (.int .i64 x)),(42,.d (.int .i64 n)),(43,.d (.int .i64 a))],
        [((13,0),some (.rows 1 (iP (bg n rules)) (some (j,56)))),((56,0),some (.arr 1 ((rowOf (bg n rules) j).map enI))),((40,0),some (.rows 1 ((vJ n (bg n rules) a).set a (s.map D.bool)) none)),((57,0),some (.arr 1 (xs.map enI)))],[13,56,40,57]⟩)
        [(13,some 13),(56,some 56),(40,some 40),(57,some 57)] [] ?_ ?_
       ·((conv=>whnf);repeat (first | exact True.intro | (refine And.intro (by first | rfl | exact ⟨rfl,rfl,rfl⟩ | exact ⟨rfl,rfl,by simp⟩ | exact ⟨rfl,rfl⟩ | exact ⟨rfl,by simp⟩ | (simp;done) | (simp;omega)) ?_;conv=>whnf)))
       repeat first | refine W1 ?_ | refine W3 ?_ | ((first | refine W2 hT hM [] ?_ | refine W4 ?_ | refine W5 ?_ | refine W6 ?_ | refine W7 ?_ rfl);conv=>whnf)
       refine ⟨by omega,?_⟩
       rw [Int.toNat_natCast]
       conv=>whnf
       refine ⟨_,List.getElem?_set_self (by rw [jv];omega),?_⟩
       conv=>whnf
       refine ⟨by rw [List.length_map,hd.len];omega,?_⟩
       conv=>whnf
       obtain ⟨b,hsx⟩:∃ b,s[x.toNat]?=some b:=⟨_,List.getElem?_eq_getElem (by rw [hd.len];omega)⟩
       refine ⟨_,by rw [Nat.zero_add,List.getElem?_map,hsx];rfl,?_⟩
       conv=>whnf
       have hl1:∀ y∈xs.take (k-1),y∈xs.take k:=fun y hy=>by rw [htk];simp [hy]
       have hl2:∀ y∈xs.take k,y=x∨y∈xs.take (k-1):=fun y hy=>by
        rw [htk] at hy
        simpa [or_comm] using hy
       refine W7 ?_ rfl;conv=>whnf
       cases b with
       | true=>
         conv=>whnf
         refine WP.back 40 75 ?_;conv=>whnf
         refine ⟨by rw [List.length_set,jv];omega,?_⟩
         conv=>whnf
         rw [List.set_set]
         repeat first | refine W1 ?_ | refine W3 ?_ | ((first | refine W2 hT hM [] ?_ | refine W4 ?_ | refine W5 ?_ | refine W6 ?_ | refine W7 ?_ rfl);conv=>whnf)
         refine ⟨(s,xs,k-1,j),[(13,some 13),(56,some 56),(40,some 40),(57,some 57)],[],?_,⟨hd.skip hl1 hl2 hsx,by dsimp only;omega,by dsimp only;omega,hj⟩,by dsimp only;omega⟩
         ((conv=>whnf);repeat (first | exact True.intro | (refine And.intro (by first | rfl | exact ⟨rfl,rfl,rfl⟩ | exact ⟨rfl,rfl,by simp⟩ | exact ⟨rfl,rfl⟩ | exact ⟨rfl,by simp⟩ | (simp;done) | (simp;omega)) ?_;conv=>whnf)))
       | false=>
         conv=>whnf
         refine W1 ?_
         refine W2 hT hM [] ?_;conv=>whnf
         refine ⟨by omega,?_⟩
         rw [Int.toNat_natCast]
         conv=>whnf
         refine ⟨⟨rfl,by rw [List.length_set,jv];omega⟩,?_⟩
         conv=>whnf
         refine ⟨by rw [List.length_map,hd.len];omega,?_⟩
         conv=>whnf
         refine ⟨rfl,_,by rw [Nat.zero_add,List.getElem?_map,hsx];rfl,?_⟩
         conv=>whnf
         refine .inl ⟨rfl,rfl,?_⟩
         rw [Nat.zero_add]
         conv=>whnf
         refine WP.back 40 75 ?_;conv=>whnf
         refine ⟨by rw [List.length_set,jv];omega,?_⟩
         conv=>whnf
         refine WP.back 13 56 ?_;conv=>whnf
         refine ⟨by rw [oC,dL];exact hj,?_⟩
         conv=>whnf
         rw [FY (by rw [dL];exact hj),List.set_set,show (s.map D.bool).set x.toNat (D.bool true)=(s.set x.toNat true).map D.bool by rw [List.map_set]]
         refine WP.weak (l':=⟨[(1,.d (.ref [.list (atoms.map enT),.list (rules.map enG)] 0)),(3,.rsl 13 n),(6,.rsl 40 n),(7,.d (.int .i64 a)),(8,.sl 57 1 0 (k-1)),(9,.d (.int .i64 x)),(42,.d (.int .i64 n)),(43,.d (.int .i64 a))],
          [((13,0),some (.rows 1 (iP (bg n rules)) none)),((40,0),some (.rows 1 ((vJ n (bg n rules) a).set a ((s.set x.toNat true).map D.bool)) none)),((57,0),some (.arr 1 (xs.map enI)))],[13,40,57]⟩)
          [(13,some 13),(40,some 40),(57,some 57)] [] ?_ ?_
         ·((conv=>whnf);repeat (first | exact True.intro | (refine And.intro (by first | rfl | exact ⟨rfl,rfl,rfl⟩ | exact ⟨rfl,rfl,by simp⟩ | exact ⟨rfl,rfl⟩ | exact ⟨rfl,by simp⟩ | (simp;done) | (simp;omega)) ?_;conv=>whnf)))
         refine W2 hT hM [] ?_;conv=>whnf
         refine ⟨by omega,?_⟩
         conv=>whnf
         refine ⟨_,rH (rJ (by rw [dL];omega)),?_⟩
         conv=>whnf
         refine ⟨_,by rw [List.drop_zero,← List.map_take],by rw [List.length_map];omega,?_⟩
         conv=>whnf
         refine ⟨_,by rw [List.drop_zero,List.take_length],by omega,?_⟩
         conv=>whnf
         have hfl:=vV hsx
         have hrx:=hrl (x.toNat:Nat)
         have hsum:k-1+(rowOf (bg n rules) (x.toNat:Nat)).length+cZ (s.set x.toNat true)*2048≤(n+1)*2048:=by omega
         refine ⟨by show _*8≤_;simp only [List.length_map,List.length_take];omega,?_⟩
         rw [show (List.map enI (xs.take (k-1))).length+(List.map enI (rowOf (bg n rules) (x.toNat:Nat))).length=k-1+(rowOf (bg n rules) (x.toNat:Nat)).length by simp only [List.length_map,List.length_take];omega,← List.map_append]
         conv=>whnf
         refine ⟨(s.set x.toNat true,xs.take (k-1)++rowOf (bg n rules) (x.toNat:Nat),k-1+(rowOf (bg n rules) (x.toNat:Nat)).length,x.toNat),[(13,some 13),(56,some 90),(40,some 40),(57,some 91)],[],?_,⟨?_,?_,hsum,by dsimp only;omega⟩,?_⟩
         ·((conv=>whnf);repeat (first | exact True.intro | (refine And.intro (by first | rfl | exact ⟨rfl,rfl,rfl⟩ | exact ⟨rfl,rfl,by simp⟩ | exact ⟨rfl,rfl⟩ | exact ⟨rfl,by simp⟩ | (simp;done) | (simp;omega)) ?_;conv=>whnf)))
         ·dsimp only
          rw [List.take_of_length_le (by rw [List.length_append,List.length_take];omega),show ((x.toNat:Nat):Int)=x by omega]
          exact hd.visit hl1 hl2 hxm hxr
         ·dsimp only
          rw [List.length_append,List.length_take];omega
         ·dsimp only;omega
      ·have hk0:k=0:=by simpa using hb
       subst hk0
       clear hb
       rw [List.take_zero] at hd
       have hs:=hd.done hNX
       refine W6 ?_;conv=>whnf
       refine WP.back 13 56 ?_;conv=>whnf
       refine ⟨by rw [oC,dL];exact hj,?_⟩
       conv=>whnf
       rw [FY (by rw [dL];exact hj),hs,QN hlt]
       conv=>whnf
       repeat first | refine W1 ?_ | refine W3 ?_ | ((first | refine W2 hT hM [] ?_ | refine W4 ?_ | refine W5 ?_ | refine W6 ?_ | refine W7 ?_ rfl);conv=>whnf)
       refine ⟨by omega,?_⟩
       conv=>whnf
       refine ⟨a+1,[(13,some 13),(40,some 40)],[],?_,by omega,by omega⟩
       ((conv=>whnf);repeat (first | exact True.intro | (refine And.intro (by first | rfl | exact ⟨rfl,rfl,rfl⟩ | exact ⟨rfl,rfl,by simp⟩ | exact ⟨rfl,rfl⟩ | exact ⟨rfl,by simp⟩ | (simp;done) | (simp;omega)) ?_;conv=>whnf)))
    ·have:a=n:=by simp at hb;omega
     subst this
     repeat first | refine W1 ?_ | refine W3 ?_ | ((first | refine W2 hT hM [] ?_ | refine W4 ?_ | refine W5 ?_ | refine W6 ?_ | refine W7 ?_ rfl);conv=>whnf)
     rw [QO]
end Go.Proofs.YtoifejgcmkencaaGreat
namespace Go.Proofs.YtoifejgcmkencaaGreat
open Go Go.Abs Go.Own
attribute [local irreducible] WP
def enN (k:Nat):D := .int .i64 (k:Nat)
def enM (d:List (List Bool)):D := .list (d.map fun r => .list (r.map D.bool))
def rowB (d:List (List Bool)) (a:Nat):List Bool:=(d[a]?).getD []
def Square (n:Nat) (d:List (List Bool)):Prop:=d.length=n∧∀ r∈d,r.length=n
theorem Square.row {n:Nat} {d:List (List Bool)} (h:Square n d) {a:Nat} (ha:a<n):(rowB d a).length=n:=by
 unfold rowB
 have hl:=h.1
 rw [List.getElem?_eq_getElem (by omega)]
 exact h.2 _ (List.getElem_mem _)
theorem Square.at {n:Nat} {d:List (List Bool)} (h:Square n d) {a:Nat} (ha:a<n):(d.map fun r=>D.list (r.map D.bool))[((a:Nat):Int).toNat]?=some (.list ((rowB d a).map D.bool)):=by
 have hl:=h.1
 rw [Int.toNat_natCast,List.getElem?_map]
 unfold rowB
 rw [List.getElem?_eq_getElem (by omega)];rfl
theorem Square.at2 {n:Nat} {d:List (List Bool)} (h:Square n d) {a b:Nat} (ha:a<n) (hb:b<n):((rowB d a).map D.bool)[((b:Nat):Int).toNat]?=some (.bool (dAt d a b)):=by
 have hl:=h.row ha
 rw [Int.toNat_natCast,List.getElem?_map]
 show Option.map _ (rowB d a)[b]?=some (D.bool (((rowB d a)[b]?).getD false))
 rw [List.getElem?_eq_getElem (by omega)];rfl
theorem TU {l:List Bool} {b:Nat} (hb:b<l.length):(l.map D.bool)[((b:Nat):Int).toNat]?=some (.bool (iW l b)):=by
 rw [Int.toNat_natCast,List.getElem?_map]
 unfold iW
 rw [List.getElem?_eq_getElem hb];rfl
theorem LD (n:Nat) (m:Own.Rows):Square n (jU n m):=by
 refine ⟨by simp [jU],fun r hr=>?_⟩
 obtain ⟨a,_,rfl⟩:=List.mem_map.1 hr
 simp [wz]
def tN (d:List (List Bool)) (a b:Nat):List Nat:=(List.range b).filter (eH d a)
theorem su (d:List (List Bool)) (a b:Nat):tN d a (b+1)=if eH d a b then tN d a b++[b] else tN d a b:=by
 unfold tN
 rw [List.range_succ,List.filter_append]
 by_cases h:eH d a b=true
 ·simp [h]
 ·simp [h]
set_option maxRecDepth 10000 in
theorem Tryz.ready (d:List (List Bool)) (n:Nat) (l:List Bool) (a:Nat) (hd:Square n d) (hl:l.length=n) (hn:n≤64) (ha:a<n) :
  Hy Tryz.prog 20 [4,3,5,22] [.d (.int .i64 (a:Nat)),.ptr 4 0,.ptr 3 0,.ptr 5 0]
   [((4,0),.cell (.d (.int .i64 (n:Nat)))),((3,0),.cell (.d (enM d))),((5,0),.cell (.sl 22 1 0 n)),((22,0),.arr 1 (l.map D.bool))] []
   [.d (.list (match qx d n l a with | true=>(grp d n a).map enN | false=>[])),.d (.bool (qx d n l a))]
   [((4,0),.cell (.d (.int .i64 (n:Nat)))),((3,0),.cell (.d (enM d))),((5,0),.cell (.sl 22 1 0 n)),((22,0),.arr 1 (l.map D.bool))]:=by
 refine Hy.of_wp hT (nt:=_) (c:=_) Tryz.func20 rfl rfl rfl rfl (by kernel_rfl) rfl rfl ?_
 intro w0 ok0 wr β0
 repeat first | refine W1 ?_ | refine W3 ?_ | ((first | refine W2 hT hM [] ?_ | refine W4 ?_ | refine W5 ?_ | refine W6 ?_ | refine W7 ?_ rfl);conv=>whnf)
 refine WP.loop (α:=Nat) (fun b=>⟨[(0,.d (.int .i64 a)),(1,.ptr 4 0),(2,.ptr 3 0),(3,.ptr 5 0),(7,.sl 7 1 0 (tN d a b).length),(9,.d (.int .i64 n)),(10,.d (.int .i64 b))],
   [((4,0),some (.cell (.d (.int .i64 (n:Nat))))),((3,0),some (.cell (.d (enM d)))),((5,0),some (.cell (.sl 22 1 0 n))),((22,0),some (.arr 1 (l.map D.bool))),((7,0),some (.arr 1 ((tN d a b).map enN)))],[4,3,5,22,7]⟩)
  (fun b=>b≤n∧∀ c,c<b→nY d l a c=true) (fun b=>n-b) 0 [(4,some 4),(3,some 3),(5,some 5),(22,some 22),(7,none)] [] ?_ ?_ ?_
 ·((conv=>whnf);repeat (first | exact True.intro | (refine And.intro (by first | rfl | exact ⟨rfl,rfl,rfl⟩ | exact ⟨rfl,rfl,by simp⟩ | exact ⟨rfl,rfl⟩ | exact ⟨rfl,by simp⟩ | (simp;done) | (simp;omega)) ?_;conv=>whnf)))
 ·exact ⟨Nat.zero_le _,fun c hc=>by omega⟩
 ·rintro b ⟨hb0,hf⟩
  repeat first | refine W1 ?_ | refine W3 ?_ | ((first | refine W2 hT hM [] ?_ | refine W4 ?_ | refine W5 ?_ | refine W6 ?_ | refine W7 ?_ rfl);conv=>whnf)
  (split<;>rename_i hb<;>(try rw [hb])<;>(conv=>whnf))
  ·have hlt:b<n:=by simpa using hb
   clear hb
   have hgl:(tN d a b).length≤b:=by
    have:=List.length_filter_le (eH d a) (List.range b)
    rwa [List.length_range] at this
   have yes:nY d l a b=true→∀ c,c<b+1→nY d l a c=true:=fun h c hc=>by
    rcases Nat.lt_or_ge c b with h1 | h1
    ·exact hf c h1
    ·obtain rfl:c=b:=by omega
     exact h
   repeat first | refine W1 ?_ | refine W3 ?_ | ((first | refine W2 hT hM [] ?_ | refine W4 ?_ | refine W5 ?_ | refine W6 ?_ | refine W7 ?_ rfl);conv=>whnf)
   by_cases e:a=b
   ·have hs:eH d a b=true:=by unfold eH;simp [e]
    rw [show (((a:Nat):Int)==((b:Nat):Int))=true by simp [e]]
    conv=>whnf
    repeat first | refine W1 ?_ | refine W3 ?_ | ((first | refine W2 hT hM [] ?_ | refine W4 ?_ | refine W5 ?_ | refine W6 ?_ | refine W7 ?_ rfl);conv=>whnf)
    refine ⟨rfl,?_⟩
    conv=>whnf
    refine ⟨_,by rw [List.drop_zero,List.take_of_length_le (by simp)],by simp,?_⟩
    conv=>whnf
    refine ⟨_,rfl,Nat.le_refl _,?_⟩
    conv=>whnf
    refine ⟨by show (_+1)*8≤_;rw [List.length_map];omega,?_⟩
    conv=>whnf
    repeat first | refine W1 ?_ | refine W3 ?_ | ((first | refine W2 hT hM [] ?_ | refine W4 ?_ | refine W5 ?_ | refine W6 ?_ | refine W7 ?_ rfl);conv=>whnf)
    refine ⟨by omega,?_⟩
    conv=>whnf
    refine ⟨b+1,[(4,some 4),(3,some 3),(5,some 5),(22,some 22),(7,some 38)],[],?_,⟨by omega,yes (by unfold nY;rw [hs];rfl)⟩,by omega⟩
    have hg:tN d a (b+1)=tN d a b++[b]:=by rw [su,if_pos hs]
    rw [hg]
    (try rw [List.map_append,show List.map enN [b]=[D.int .i64 (b:Nat)] from rfl])
    ((conv=>whnf);repeat (first | exact True.intro | (refine And.intro (by first | rfl | exact ⟨rfl,rfl,rfl⟩ | exact ⟨rfl,rfl,by simp⟩ | exact ⟨rfl,rfl⟩ | exact ⟨rfl,by simp⟩ | (simp;done) | (simp;omega)) ?_;conv=>whnf)))
   ·rw [show (((a:Nat):Int)==((b:Nat):Int))=false from decide_eq_false (by omega)]
    conv=>whnf
    refine ⟨by omega,_,hd.at ha,rfl,?_⟩
    conv=>whnf
    refine ⟨by omega,_,hd.at2 ha hlt,rfl,?_⟩
    conv=>whnf
    cases h1:dAt d a b with
    | false=>
      have hs:eH d a b=false:=by unfold eH;simp [e,h1]
      have hfi:nY d l a b=true:=by unfold nY;simp [h1]
      conv=>whnf
      repeat first | refine W1 ?_ | refine W3 ?_ | ((first | refine W2 hT hM [] ?_ | refine W4 ?_ | refine W5 ?_ | refine W6 ?_ | refine W7 ?_ rfl);conv=>whnf)
      refine ⟨by omega,_,hd.at ha,rfl,?_⟩
      conv=>whnf
      refine ⟨by omega,_,hd.at2 ha hlt,rfl,?_⟩
      conv=>whnf
      rw [h1]
      conv=>whnf
      repeat first | refine W1 ?_ | refine W3 ?_ | ((first | refine W2 hT hM [] ?_ | refine W4 ?_ | refine W5 ?_ | refine W6 ?_ | refine W7 ?_ rfl);conv=>whnf)
      refine ⟨by omega,?_⟩
      conv=>whnf
      refine ⟨b+1,[(4,some 4),(3,some 3),(5,some 5),(22,some 22),(7,some 7)],[],?_,⟨by omega,yes hfi⟩,by omega⟩
      have hg:tN d a (b+1)=tN d a b:=by rw [su,hs];rfl
      rw [hg]
      (try rw [List.map_append,show List.map enN [b]=[D.int .i64 (b:Nat)] from rfl])
      ((conv=>whnf);repeat (first | exact True.intro | (refine And.intro (by first | rfl | exact ⟨rfl,rfl,rfl⟩ | exact ⟨rfl,rfl,by simp⟩ | exact ⟨rfl,rfl⟩ | exact ⟨rfl,by simp⟩ | (simp;done) | (simp;omega)) ?_;conv=>whnf)))
    | true=>
      conv=>whnf
      refine ⟨by omega,_,hd.at hlt,rfl,?_⟩
      conv=>whnf
      refine ⟨by omega,_,hd.at2 hlt ha,rfl,?_⟩
      conv=>whnf
      cases h2:dAt d b a with
      | true=>
        have hs:eH d a b=true:=by unfold eH;simp [h1,h2]
        conv=>whnf
        repeat first | refine W1 ?_ | refine W3 ?_ | ((first | refine W2 hT hM [] ?_ | refine W4 ?_ | refine W5 ?_ | refine W6 ?_ | refine W7 ?_ rfl);conv=>whnf)
        refine ⟨rfl,?_⟩
        conv=>whnf
        refine ⟨_,by rw [List.drop_zero,List.take_of_length_le (by simp)],by simp,?_⟩
        conv=>whnf
        refine ⟨_,rfl,Nat.le_refl _,?_⟩
        conv=>whnf
        refine ⟨by show (_+1)*8≤_;rw [List.length_map];omega,?_⟩
        conv=>whnf
        repeat first | refine W1 ?_ | refine W3 ?_ | ((first | refine W2 hT hM [] ?_ | refine W4 ?_ | refine W5 ?_ | refine W6 ?_ | refine W7 ?_ rfl);conv=>whnf)
        refine ⟨by omega,?_⟩
        conv=>whnf
        refine ⟨b+1,[(4,some 4),(3,some 3),(5,some 5),(22,some 22),(7,some 38)],[],?_,⟨by omega,yes (by unfold nY;rw [hs];rfl)⟩,by omega⟩
        have hg:tN d a (b+1)=tN d a b++[b]:=by rw [su,if_pos hs]
        rw [hg]
        (try rw [List.map_append,show List.map enN [b]=[D.int .i64 (b:Nat)] from rfl])
        ((conv=>whnf);repeat (first | exact True.intro | (refine And.intro (by first | rfl | exact ⟨rfl,rfl,rfl⟩ | exact ⟨rfl,rfl,by simp⟩ | exact ⟨rfl,rfl⟩ | exact ⟨rfl,by simp⟩ | (simp;done) | (simp;omega)) ?_;conv=>whnf)))
      | false=>
        have hs:eH d a b=false:=by unfold eH;simp [e,h2]
        conv=>whnf
        repeat first | refine W1 ?_ | refine W3 ?_ | ((first | refine W2 hT hM [] ?_ | refine W4 ?_ | refine W5 ?_ | refine W6 ?_ | refine W7 ?_ rfl);conv=>whnf)
        refine ⟨by omega,_,hd.at ha,rfl,?_⟩
        conv=>whnf
        refine ⟨by omega,_,hd.at2 ha hlt,rfl,?_⟩
        conv=>whnf
        rw [h1]
        conv=>whnf
        refine ⟨by omega,?_⟩
        conv=>whnf
        refine ⟨_,by rw [Nat.zero_add];exact TU (by omega),?_⟩
        conv=>whnf
        cases h3:iW l b with
        | true=>
          have hfi:nY d l a b=true:=by unfold nY;simp [h3]
          conv=>whnf
          repeat first | refine W1 ?_ | refine W3 ?_ | ((first | refine W2 hT hM [] ?_ | refine W4 ?_ | refine W5 ?_ | refine W6 ?_ | refine W7 ?_ rfl);conv=>whnf)
          refine ⟨by omega,?_⟩
          conv=>whnf
          refine ⟨b+1,[(4,some 4),(3,some 3),(5,some 5),(22,some 22),(7,some 7)],[],?_,⟨by omega,yes hfi⟩,by omega⟩
          have hg:tN d a (b+1)=tN d a b:=by rw [su,hs];rfl
          rw [hg]
          (try rw [List.map_append,show List.map enN [b]=[D.int .i64 (b:Nat)] from rfl])
          ((conv=>whnf);repeat (first | exact True.intro | (refine And.intro (by first | rfl | exact ⟨rfl,rfl,rfl⟩ | exact ⟨rfl,rfl,by simp⟩ | exact ⟨rfl,rfl⟩ | exact ⟨rfl,by simp⟩ | (simp;done) | (simp;omega)) ?_;conv=>whnf)))
        | false=>
          have hr:qx d n l a=false:=by
           unfold qx
           rw [List.all_eq_false]
           exact ⟨b,List.mem_range.2 hlt,by unfold nY;simp [hs,h1,h3]⟩
          rw [hr]
          conv=>whnf
          repeat first | refine W1 ?_ | refine W3 ?_ | ((first | refine W2 hT hM [] ?_ | refine W4 ?_ | refine W5 ?_ | refine W6 ?_ | refine W7 ?_ rfl);conv=>whnf)
          refine ⟨[(4,some 4),(3,some 3),(5,some 5),(22,some 22)],[],?_,rfl⟩
          ((conv=>whnf);repeat (first | exact True.intro | (refine And.intro (by first | rfl | exact ⟨rfl,rfl,rfl⟩ | exact ⟨rfl,rfl,by simp⟩ | exact ⟨rfl,rfl⟩ | exact ⟨rfl,by simp⟩ | (simp;done) | (simp;omega)) ?_;conv=>whnf)))
  ·have:b=n:=by simp at hb;omega
   subst this
   have hr:qx d b l a=true:=List.all_eq_true.2 fun c hc=>hf c (List.mem_range.1 hc)
   rw [hr]
   clear hb
   repeat first | refine W1 ?_ | refine W3 ?_ | ((first | refine W2 hT hM [] ?_ | refine W4 ?_ | refine W5 ?_ | refine W6 ?_ | refine W7 ?_ rfl);conv=>whnf)
   refine ⟨[(4,some 4),(3,some 3),(5,some 5),(22,some 22)],[7],?_,rfl⟩
   ((conv=>whnf);repeat (first | exact True.intro | (refine And.intro (by first | rfl | exact ⟨rfl,rfl,rfl⟩ | exact ⟨rfl,rfl,by simp⟩ | exact ⟨rfl,rfl⟩ | exact ⟨rfl,by simp⟩ | (simp;done) | (simp;omega)) ?_;conv=>whnf)))
   refine ⟨(tN d a b).map enN,by rw [List.drop_zero,List.take_of_length_le (by simp)],by simp,rfl,?_⟩
   ((conv=>whnf);repeat (first | exact True.intro | (refine And.intro (by first | rfl | exact ⟨rfl,rfl,rfl⟩ | exact ⟨rfl,rfl,by simp⟩ | exact ⟨rfl,rfl⟩ | exact ⟨rfl,by simp⟩ | (simp;done) | (simp;omega)) ?_;conv=>whnf)))
end Go.Proofs.YtoifejgcmkencaaGreat
namespace Go.Proofs.YtoifejgcmkencaaGreat
open Go Go.Abs Go.Own
attribute [local irreducible] WP
def oG (out:List (List Nat)):List D:=out.map fun g => .list (g.map enN)
theorem FM {atoms:List Tm} {rules:List Gr} (h:iC atoms rules=true):Qu atoms.length rules:=by
 have key:∀ r∈rules,gX atoms.length r=true:=fun r hr=>by
  unfold iC at h
  simp only [Bool.and_eq_true] at h
  obtain ⟨i,hi,rfl⟩:=List.mem_iff_getElem.1 hr
  have:=nN.1 h.2 i hi
  rw [jX hi,Bool.and_eq_true] at this
  exact this.1
 refine ⟨fun r hr=>?_,fun r hr=>?_⟩
 ·have:=key r hr
  unfold gX jB at this
  simp only [Bool.and_eq_true,decide_eq_true_eq] at this
  omega
 ·have:=key r hr
  unfold gX at this
  simp only [Bool.and_eq_true] at this
  exact ⟨xk this.1.2,xk this.2⟩
structure GSt where
 l:List Bool
 out:List (List Nat)
 a:Nat
 k:Nat
 m:Nat
structure GOk (d:List (List Bool)) (n:Nat) (x:GSt):Prop where
 len:x.l.length=n
 fuel:cZ x.l<x.k
 run:yP d n x.k x.l x.out=nV d n
 before:∀ c,c<x.a→qU d n x.l c=false
 le:x.a≤n
 cnt:x.out.length+cZ x.l≤n
theorem IB {l:List Bool} {g:List Nat} {i:Nat} (h:i<g.length):cO l (g.take (i+1))=(cO l (g.take i)).set g[i] true:=by
 unfold cO
 rw [List.take_succ_eq_append_getElem h,List.foldl_append];rfl
theorem Rt (l:List Bool):cZ l≤l.length:=List.count_le_length
theorem NR {n a:Nat} {p:Nat→Bool} (h:∀ c,c<a→p c=false) (ha:a<n) (hp:p a=true):(List.range n).find? p=some a:=by
 rw [List.find?_range_eq_some]
 exact ⟨hp,List.mem_range.2 ha,fun j hj=>by rw [h j hj];rfl⟩
theorem QF {d:List (List Bool)} {n k:Nat} {l:List Bool} {out:List (List Nat)} (hk:0<k) (h:∀ c,c<n→qU d n l c=false):yP d n k l out=out:=by
 cases k with
 | zero=>omega
 | succ k=>
   unfold yP
   rw [List.find?_eq_none.2 fun c hc=>by rw [h c (List.mem_range.1 hc)];simp]
theorem QE {d:List (List Bool)} {n k a:Nat} {l:List Bool} {out:List (List Nat)} (ha:a<n) (hc:qU d n l a=true) (h:∀ c,c<a→qU d n l c=false):yP d n (k+1) l out=yP d n k (cO l (grp d n a)) (out++[grp d n a]):=by
 conv=>lhs;unfold yP
 rw [NR h ha hc]
theorem Tryz.groups (atoms:List Tm) (rules:List Gr) (hok:∀ x∈atoms,okT x) (hv:iC atoms rules=true) (hn:atoms.length≤64) (hr:rules.length≤128) (hf:∀ r∈rules,r.2.1.length+r.2.2.length≤16) :
  Pure Tryz.prog 7 [gD atoms rules] [.list (oG (nV (jU atoms.length (bg atoms.length rules)) atoms.length))]:=by
 have hfit:WS rules:=fun r h=>by have:=hf r h;omega
 refine Pure.of_wp hT (nt:=_) (c:=_) Tryz.func7 rfl rfl rfl rfl (by kernel_rfl) ?_
 intro w0 ok0 β0
 repeat first | refine W1 ?_ | refine W3 ?_ | ((first | refine W2 hT hM [] ?_ | refine W4 ?_ | refine W5 ?_ | refine W6 ?_ | refine W7 ?_ rfl);conv=>whnf)
 refine .inl ⟨_,Tryz.Yq atoms rules hok hfit,.inl rfl,?_⟩
 rw [hv]
 conv=>whnf
 repeat first | refine W1 ?_ | refine W3 ?_ | ((first | refine W2 hT hM [] ?_ | refine W4 ?_ | refine W5 ?_ | refine W6 ?_ | refine W7 ?_ rfl);conv=>whnf)
 refine .inl ⟨_,Tryz.dependencies atoms rules (FM hv) hn hr hf,.inl rfl,?_⟩
 conv=>whnf
 obtain ⟨n,hnn⟩:∃ n,atoms.length=n:=⟨_,rfl⟩
 rw [hnn]
 generalize hD:jU n (bg n rules)=d
 have hsq:Square n d:=hD ▸ LD n (bg n rules)
 repeat first | refine W1 ?_ | refine W3 ?_ | ((first | refine W2 hT hM [] ?_ | refine W4 ?_ | refine W5 ?_ | refine W6 ?_ | refine W7 ?_ rfl);conv=>whnf)
 refine ⟨rfl,?_⟩
 conv=>whnf
 repeat first | refine W1 ?_ | refine W3 ?_ | ((first | refine W2 hT hM [] ?_ | refine W4 ?_ | refine W5 ?_ | refine W6 ?_ | refine W7 ?_ rfl);conv=>whnf)
 refine ⟨rfl,?_⟩
 conv=>whnf
 repeat first | refine W1 ?_ | refine W3 ?_ | ((first | refine W2 hT hM [] ?_ | refine W4 ?_ | refine W5 ?_ | refine W6 ?_ | refine W7 ?_ rfl);conv=>whnf)
 rw [List.length_map,hnn]
 refine ⟨⟨by omega,by omega,by omega,by show ((1:Nat):Int)*(n:Int)≤281474976710656;omega⟩,?_⟩
 rw [Int.toNat_natCast]
 conv=>whnf
 refine ⟨rfl,?_⟩
 conv=>whnf
 repeat first | refine W1 ?_ | refine W3 ?_ | ((first | refine W2 hT hM [] ?_ | refine W4 ?_ | refine W5 ?_ | refine W6 ?_ | refine W7 ?_ rfl);conv=>whnf)
 refine WP.loop (α:=GSt) (fun x=>⟨[(3,.ptr 3 0),(4,.ptr 4 0),(5,.ptr 5 0),(6,.func (.func 20) [] [.ptr 4 0,.ptr 3 0,.ptr 5 0]),(7,.sl 7 1 0 x.out.length),(8,.d (.int .i64 x.a))],
   [((3,0),some (.cell (.d (enM d)))),((4,0),some (.cell (.d (.int .i64 n)))),((5,0),some (.cell (.sl 22 1 0 n))),((22,0),some (.arr 1 (x.l.map D.bool))),((7,0),some (.arr 1 (oG x.out)))],[3,4,5,22,7]⟩)
  (GOk d n) (fun x=>cZ x.l*(n+1)+(n-x.a)) ⟨List.replicate n false,[],0,n+1,0⟩ [(3,some 3),(4,some 4),(5,some 5),(22,some 22),(7,none)] [] ?_ ?_ ?_
 ·rw [show List.replicate n (D.bool false)=(List.replicate n false).map D.bool by simp]
  ((conv=>whnf);repeat (first | exact True.intro | (refine And.intro (by first | rfl | exact ⟨rfl,rfl,rfl⟩ | exact ⟨rfl,rfl,by simp⟩ | exact ⟨rfl,rfl⟩ | exact ⟨rfl,by simp⟩ | (simp;done) | (simp;omega)) ?_;conv=>whnf)))
 ·exact ⟨by simp,by simp only [dV];omega,rfl,fun c hc=>by simp only at hc;omega,Nat.zero_le _,by simp [dV]⟩
 ·rintro ⟨l,out,a,k,_⟩ ⟨hl,hfu,hrun,hbe,hle,hcnt⟩
  dsimp only at hl hfu hrun hbe hle hcnt ⊢
  repeat first | refine W1 ?_ | refine W3 ?_ | ((first | refine W2 hT hM [] ?_ | refine W4 ?_ | refine W5 ?_ | refine W6 ?_ | refine W7 ?_ rfl);conv=>whnf)
  (split<;>rename_i hb<;>(try rw [hb])<;>(conv=>whnf))
  ·have hlt:a<n:=by simpa using hb
   clear hb
   repeat first | refine W1 ?_ | refine W3 ?_ | ((first | refine W2 hT hM [] ?_ | refine W4 ?_ | refine W5 ?_ | refine W6 ?_ | refine W7 ?_ rfl);conv=>whnf)
   refine ⟨by omega,?_⟩
   rw [Int.toNat_natCast]
   conv=>whnf
   refine ⟨_,by rw [Nat.zero_add,← Int.toNat_natCast a];exact TU (by omega),?_⟩
   conv=>whnf
   refine W7 ?_ rfl;conv=>whnf
   cases hla:iW l a with
   | true=>
     have hc:qU d n l a=false:=by unfold qU;rw [hla];rfl
     conv=>whnf
     repeat first | refine W1 ?_ | refine W3 ?_ | ((first | refine W2 hT hM [] ?_ | refine W4 ?_ | refine W5 ?_ | refine W6 ?_ | refine W7 ?_ rfl);conv=>whnf)
     refine ⟨by omega,?_⟩
     conv=>whnf
     refine ⟨⟨l,out,a+1,k,0⟩,[(3,some 3),(4,some 4),(5,some 5),(22,some 22),(7,some 7)],[],?_,⟨hl,hfu,hrun,fun c h=>?_,by dsimp only;omega,hcnt⟩,by dsimp only;omega⟩
     ·((conv=>whnf);repeat (first | exact True.intro | (refine And.intro (by first | rfl | exact ⟨rfl,rfl,rfl⟩ | exact ⟨rfl,rfl,by simp⟩ | exact ⟨rfl,rfl⟩ | exact ⟨rfl,by simp⟩ | (simp;done) | (simp;omega)) ?_;conv=>whnf)))
     ·dsimp only at h
      rcases Nat.lt_or_ge c a with h1 | h1
      ·exact hbe c h1
      ·rw [show c=a by omega];exact hc
   | false=>
     conv=>whnf
     repeat first | refine W1 ?_ | refine W3 ?_ | ((first | refine W2 hT hM [] ?_ | refine W4 ?_ | refine W5 ?_ | refine W6 ?_ | refine W7 ?_ rfl);conv=>whnf)
     refine .inr ⟨_,_,_,_,_,_,Tryz.ready d n l a hsq hl (by omega) hlt,[(4,4),(3,3),(5,5),(22,22)],[],rfl,rfl,?_⟩
     conv=>whnf
     refine ⟨rfl,rfl,rfl,rfl,?_⟩
     conv=>whnf
     refine W1 ?_
     refine W2 hT hM [] ?_;conv=>whnf
     refine W7 ?_ rfl;conv=>whnf
     cases hrd:qx d n l a with
     | false=>
       have hc:qU d n l a=false:=by unfold qU;rw [hla,hrd];rfl
       conv=>whnf
       repeat first | refine W1 ?_ | refine W3 ?_ | ((first | refine W2 hT hM [] ?_ | refine W4 ?_ | refine W5 ?_ | refine W6 ?_ | refine W7 ?_ rfl);conv=>whnf)
       refine ⟨by omega,?_⟩
       conv=>whnf
       refine ⟨⟨l,out,a+1,k,0⟩,[(3,some 3),(4,some 4),(5,some 5),(22,some 22),(7,some 7)],[],?_,⟨hl,hfu,hrun,fun c h=>?_,by dsimp only;omega,hcnt⟩,by dsimp only;omega⟩
       ·((conv=>whnf);repeat (first | exact True.intro | (refine And.intro (by first | rfl | exact ⟨rfl,rfl,rfl⟩ | exact ⟨rfl,rfl,by simp⟩ | exact ⟨rfl,rfl⟩ | exact ⟨rfl,by simp⟩ | (simp;done) | (simp;omega)) ?_;conv=>whnf)))
       ·dsimp only at h
        rcases Nat.lt_or_ge c a with h1 | h1
        ·exact hbe c h1
        ·rw [show c=a by omega];exact hc
     | true=>
       have hc:qU d n l a=true:=by unfold qU;rw [hla,hrd];rfl
       conv=>whnf
       have hgl:(grp d n a).length≤64:=by
        have:=List.length_filter_le (eH d a) (List.range n)
        rw [List.length_range] at this
        show ((List.range n).filter _).length≤64
        omega
       have hll:=Rt l
       refine WP.weak (l':=⟨[(3,.ptr 3 0),(4,.ptr 4 0),(5,.ptr 5 0),(6,.func (.func 20) [] [.ptr 4 0,.ptr 3 0,.ptr 5 0]),(7,.sl 7 1 0 out.length),(9,.d (.list ((grp d n a).map enN)))],
        [((3,0),some (.cell (.d (enM d)))),((4,0),some (.cell (.d (.int .i64 n)))),((5,0),some (.cell (.sl 22 1 0 n))),((22,0),some (.arr 1 (l.map D.bool))),((7,0),some (.arr 1 (oG out)))],[3,4,5,22,7]⟩)
        [(3,some 3),(4,some 4),(5,some 5),(22,some 22),(7,some 7)] [] ?_ ?_
       ·((conv=>whnf);repeat (first | exact True.intro | (refine And.intro (by first | rfl | exact ⟨rfl,rfl,rfl⟩ | exact ⟨rfl,rfl,by simp⟩ | exact ⟨rfl,rfl⟩ | exact ⟨rfl,by simp⟩ | (simp;done) | (simp;omega)) ?_;conv=>whnf)))
       repeat first | refine W1 ?_ | refine W3 ?_ | ((first | refine W2 hT hM [] ?_ | refine W4 ?_ | refine W5 ?_ | refine W6 ?_ | refine W7 ?_ rfl);conv=>whnf)
       refine ⟨rfl,?_⟩
       conv=>whnf
       refine ⟨_,by rw [List.drop_zero,List.take_of_length_le (by simp [oG])],by simp [oG],?_⟩
       conv=>whnf
       refine ⟨_,rfl,Nat.le_refl _,?_⟩
       conv=>whnf
       refine ⟨by show (_+1)*24≤_;simp only [oG,List.length_map];omega,?_⟩
       conv=>whnf
       repeat first | refine W1 ?_ | refine W3 ?_ | ((first | refine W2 hT hM [] ?_ | refine W4 ?_ | refine W5 ?_ | refine W6 ?_ | refine W7 ?_ rfl);conv=>whnf)
       refine WP.loop (α:=Nat) (fun i=>⟨[(3,.ptr 3 0),(4,.ptr 4 0),(5,.ptr 5 0),(6,.func (.func 20) [] [.ptr 4 0,.ptr 3 0,.ptr 5 0]),(7,.sl 7 1 0 (out.length+1)),(44,.d (.list ((grp d n a).map enN))),(45,.d (.int .i64 (grp d n a).length)),(46,.d (.int .i64 i))],
        [((3,0),some (.cell (.d (enM d)))),((4,0),some (.cell (.d (.int .i64 n)))),((5,0),some (.cell (.sl 22 1 0 n))),((22,0),some (.arr 1 ((cO l ((grp d n a).take i)).map D.bool))),((7,0),some (.arr 1 (oG (out++[grp d n a]))))],[3,4,5,22,7]⟩)
        (fun i=>i≤(grp d n a).length) (fun i=>(grp d n a).length-i) 0 [(3,some 3),(4,some 4),(5,some 5),(22,some 22),(7,some 43)] [] ?_ ?_ ?_
       ·rw [List.length_map]
        rw [show (oG out).length+(List.take [D.list ((grp d n a).map enN)].length (List.drop 0 [D.list ((grp d n a).map enN)])).length=out.length+1 by simp [oG],show oG out++List.take [D.list ((grp d n a).map enN)].length (List.drop 0 [D.list ((grp d n a).map enN)])=oG (out++[grp d n a]) by simp [oG]]
        ((conv=>whnf);repeat (first | exact True.intro | (refine And.intro (by first | rfl | exact ⟨rfl,rfl,rfl⟩ | exact ⟨rfl,rfl,by simp⟩ | exact ⟨rfl,rfl⟩ | exact ⟨rfl,by simp⟩ | (simp;done) | (simp;omega)) ?_;conv=>whnf)))
       ·exact Nat.zero_le _
       ·intro i hi
        repeat first | refine W1 ?_ | refine W3 ?_ | ((first | refine W2 hT hM [] ?_ | refine W4 ?_ | refine W5 ?_ | refine W6 ?_ | refine W7 ?_ rfl);conv=>whnf)
        (split<;>rename_i hb<;>(try rw [hb])<;>(conv=>whnf))
        ·have hig:i<(grp d n a).length:=by simpa using hb
         clear hb
         have hxn:(grp d n a)[i]<n:=(jl.1 (List.getElem_mem hig)).1
         repeat first | refine W1 ?_ | refine W3 ?_ | ((first | refine W2 hT hM [] ?_ | refine W4 ?_ | refine W5 ?_ | refine W6 ?_ | refine W7 ?_ rfl);conv=>whnf)
         refine ⟨by omega,_,bC hig,rfl,?_⟩
         conv=>whnf
         repeat first | refine W1 ?_ | refine W3 ?_ | ((first | refine W2 hT hM [] ?_ | refine W4 ?_ | refine W5 ?_ | refine W6 ?_ | refine W7 ?_ rfl);conv=>whnf)
         refine ⟨⟨by omega,by omega⟩,?_⟩
         conv=>whnf
         refine ⟨rfl,_,by rw [Nat.zero_add];exact TU (by rw [iF];omega),?_⟩
         conv=>whnf
         refine .inl ⟨rfl,rfl,?_⟩
         conv=>whnf
         repeat first | refine W1 ?_ | refine W3 ?_ | ((first | refine W2 hT hM [] ?_ | refine W4 ?_ | refine W5 ?_ | refine W6 ?_ | refine W7 ?_ rfl);conv=>whnf)
         refine ⟨by omega,?_⟩
         conv=>whnf
         refine ⟨i+1,[(3,some 3),(4,some 4),(5,some 5),(22,some 22),(7,some 7)],[],?_,by omega,by omega⟩
         rw [show ((cO l ((grp d n a).take i)).map D.bool).set (0+((((grp d n a)[i]:Nat):Int)).toNat) (D.bool true)=(cO l ((grp d n a).take (i+1))).map D.bool by rw [IB hig,List.map_set];simp]
         ((conv=>whnf);repeat (first | exact True.intro | (refine And.intro (by first | rfl | exact ⟨rfl,rfl,rfl⟩ | exact ⟨rfl,rfl,by simp⟩ | exact ⟨rfl,rfl⟩ | exact ⟨rfl,by simp⟩ | (simp;done) | (simp;omega)) ?_;conv=>whnf)))
        ·have:i=(grp d n a).length:=by simp at hb;omega
         subst this
         clear hb
         rw [List.take_length]
         have hga:a∈grp d n a:=jl.2 ⟨hlt,by simp [eH]⟩
         have hla':l[a]?=some false:=by
          have:=hla
          unfold iW at this
          rw [List.getElem?_eq_getElem (by omega)] at this ⊢
          simpa using this
         have hmk:=iI (grp d n a) l a hga hla'
         have hmul:=Nat.mul_le_mul_right (n+1) (Nat.succ_le_of_lt hmk)
         rw [Nat.succ_mul] at hmul
         repeat first | refine W1 ?_ | refine W3 ?_ | ((first | refine W2 hT hM [] ?_ | refine W4 ?_ | refine W5 ?_ | refine W6 ?_ | refine W7 ?_ rfl);conv=>whnf)
         refine ⟨by decide,?_⟩
         conv=>whnf
         obtain ⟨k',rfl⟩:∃ k',k=k'+1:=⟨k-1,by omega⟩
         rw [QE hlt hc hbe] at hrun
         refine ⟨⟨cO l (grp d n a),out++[grp d n a],0,k',0⟩,[(3,some 3),(4,some 4),(5,some 5),(22,some 22),(7,some 7)],[],?_,⟨by rw [iF];exact hl,by dsimp only;omega,hrun,fun c h=>by dsimp only at h;omega,Nat.zero_le _,by dsimp only;rw [List.length_append];simp only [List.length_singleton];omega⟩,by dsimp only;omega⟩
         rw [show (out++[grp d n a]).length=out.length+1 by simp]
         ((conv=>whnf);repeat (first | exact True.intro | (refine And.intro (by first | rfl | exact ⟨rfl,rfl,rfl⟩ | exact ⟨rfl,rfl,by simp⟩ | exact ⟨rfl,rfl⟩ | exact ⟨rfl,by simp⟩ | (simp;done) | (simp;omega)) ?_;conv=>whnf)))
  ·have:a=n:=by simp at hb;omega
   subst this
   rw [QF (by omega) hbe] at hrun
   clear hb
   repeat first | refine W1 ?_ | refine W3 ?_ | ((first | refine W2 hT hM [] ?_ | refine W4 ?_ | refine W5 ?_ | refine W6 ?_ | refine W7 ?_ rfl);conv=>whnf)
   refine ⟨_,by rw [List.drop_zero,List.take_of_length_le (by simp [oG])],by simp [oG],?_⟩
   conv=>whnf
   rw [hrun]
end Go.Proofs.YtoifejgcmkencaaGreat
