/- Walks: a belief's probabilities; what a list contains; ascending lists. -/
import Derived.Test.YtoikephldpcpgaaGreatDoorBelCAnd
import Derived.Test.YtoikephldpcpgaaGreatDoorBelAOne
set_option linter.unusedVariables false
set_option linter.unusedSimpArgs false
set_option linter.all false
namespace Go.Proofs.YtoikephldpcpgaaGreatDoor
open Go Go.Abs Go.Own
attribute [local irreducible] WP
theorem Tryz.Cm (b:List Wt) (hl:b.length≤1000000):Pure Tryz.prog 34 [.list (b.map enW)] [.list ((b.map (·.2)).map enQ)]:=by
 have h16:(T 28).bytes=16:=rfl
 refine Pure.of_wp hT (nt:=_) (c:=_) Tryz.func34 rfl rfl rfl rfl (by kernel_rfl) ?_
 intro w0 ok0 β0
 repeat first | refine W1 ?_ | refine W3 ?_ | ((first | refine W2 hT hM [] ?_ | refine W4 ?_ | refine W5 ?_ | refine W6 ?_ | refine W7 ?_ rfl);conv=>whnf)
 refine WP.loop (α:=Nat×List D) (fun x=>⟨[(3,QV 3 2 x.2),(6,.d (.list (b.map enW))),(7,.d (.int .i64 b.length)),(8,.d (.int .i64 x.1))],QY 3 2 x.2,QW 3 x.2⟩)
  (fun x=>x.1≤b.length∧x.2=(b.take x.1).map fun w=>enQ w.2) (fun x=>b.length-x.1) (0,[]) [] [] ?_ ?_ ?_
 ·((conv=>whnf);repeat (first | exact True.intro | (refine And.intro (by first | rfl | exact ⟨rfl,rfl,rfl⟩ | exact ⟨rfl,rfl,by simp⟩ | exact ⟨rfl,rfl⟩ | exact ⟨rfl,by simp⟩ | (simp;done) | (simp;omega)) ?_;conv=>whnf)))
 ·simp
 ·rintro ⟨i,s⟩ ⟨hi,hs⟩
  simp only at hi hs
  repeat first | refine W1 ?_ | refine W3 ?_ | ((first | refine W2 hT hM [] ?_ | refine W4 ?_ | refine W5 ?_ | refine W6 ?_ | refine W7 ?_ rfl);conv=>whnf)
  (split<;>rename_i hb<;>(try rw [hb])<;>(conv=>whnf))
  ·have hlt:i<b.length:=by simpa using hb
   clear hb
   have hnx:=y8 (fun w:Wt=>enQ w.2) hlt
   rw [← hs] at hnx
   have hsl:s.length≤1000000:=by rw [hs];simp;omega
   repeat first | refine W1 ?_ | refine W3 ?_ | ((first | refine W2 hT hM [] ?_ | refine W4 ?_ | refine W5 ?_ | refine W6 ?_ | refine W7 ?_ rfl);conv=>whnf)
   refine ⟨by omega,_,aZ hlt,rfl,?_⟩
   conv=>whnf
   repeat first | refine W1 ?_ | refine W3 ?_ | ((first | refine W2 hT hM [] ?_ | refine W4 ?_ | refine W5 ?_ | refine W6 ?_ | refine W7 ?_ rfl);conv=>whnf)
   cases s with
   | nil=>
     repeat first | refine W1 ?_ | refine W3 ?_ | ((first | refine W2 hT hM [] ?_ | refine W4 ?_ | refine W5 ?_ | refine W6 ?_ | refine W7 ?_ rfl);conv=>whnf)
     refine ⟨rfl,?_⟩
     conv=>whnf
     refine ⟨_,rfl,Nat.le_refl _,Nat.le_of_ble_eq_true rfl,?_⟩
     conv=>whnf
     repeat first | refine W1 ?_ | refine W3 ?_ | ((first | refine W2 hT hM [] ?_ | refine W4 ?_ | refine W5 ?_ | refine W6 ?_ | refine W7 ?_ rfl);conv=>whnf)
     refine ⟨by omega,?_⟩
     conv=>whnf
     refine ⟨(i+1,[enQ b[i].2]),[(3,some 16)],[],?_,⟨by simp only;omega,hnx.symm⟩,by simp only;omega⟩
     ((conv=>whnf);repeat (first | exact True.intro | (refine And.intro (by first | rfl | exact ⟨rfl,rfl,rfl⟩ | exact ⟨rfl,rfl,by simp⟩ | exact ⟨rfl,rfl⟩ | exact ⟨rfl,by simp⟩ | (simp;done) | (simp;omega)) ?_;conv=>whnf)))
   | cons c u=>
     repeat first | refine W1 ?_ | refine W3 ?_ | ((first | refine W2 hT hM [] ?_ | refine W4 ?_ | refine W5 ?_ | refine W6 ?_ | refine W7 ?_ rfl);conv=>whnf)
     refine ⟨rfl,?_⟩
     conv=>whnf
     refine ⟨c::u,by rw [List.drop_zero,List.take_of_length_le (Nat.le_refl _)],by simp,?_⟩
     conv=>whnf
     refine ⟨_,rfl,Nat.le_refl _,?_,?_⟩
     ·rw [h16]
      have h1:∀ x:D,(List.take [x].length (List.drop 0 [x])).length=1:=fun _=>rfl
      simp only [h1];omega
     conv=>whnf
     repeat first | refine W1 ?_ | refine W3 ?_ | ((first | refine W2 hT hM [] ?_ | refine W4 ?_ | refine W5 ?_ | refine W6 ?_ | refine W7 ?_ rfl);conv=>whnf)
     refine ⟨by omega,?_⟩
     conv=>whnf
     refine ⟨(i+1,(c::u)++[enQ b[i].2]),[(3,some 16)],[],?_,⟨by simp only;omega,hnx.symm⟩,by simp only;omega⟩
     ((conv=>whnf);repeat (first | exact True.intro | (refine And.intro (by first | rfl | exact ⟨rfl,rfl,rfl⟩ | exact ⟨rfl,rfl,by simp⟩ | exact ⟨rfl,rfl⟩ | exact ⟨rfl,by simp⟩ | (simp;done) | (simp;omega)) ?_;conv=>whnf)))
  ·have hii:i=b.length:=by simp at hb;omega
   subst hii
   clear hb
   rw [List.take_length] at hs
   have hfin:((b.map (·.2)).map enQ)=s:=by rw [hs,List.map_map];rfl
   rw [hfin]
   cases s with
   | nil=>repeat first | refine W1 ?_ | refine W3 ?_ | ((first | refine W2 hT hM [] ?_ | refine W4 ?_ | refine W5 ?_ | refine W6 ?_ | refine W7 ?_ rfl);conv=>whnf)
   | cons c u=>
     repeat first | refine W1 ?_ | refine W3 ?_ | ((first | refine W2 hT hM [] ?_ | refine W4 ?_ | refine W5 ?_ | refine W6 ?_ | refine W7 ?_ rfl);conv=>whnf)
     refine ⟨c::u,by rw [List.drop_zero,List.take_of_length_le (Nat.le_refl _)],by simp,?_⟩
     conv=>whnf
def FW (i:Int):List Int→Int→Int
 | [],_=>-1
 | y::l,x=>if x=y then i else FW (i+1) l x
theorem Je:∀ {l:List Int} {x i:Int},0≤i→(0≤FW i l x↔x∈l)
 | [],x,i,h=>by simp [FW]
 | y::l,x,i,h=>by
   unfold FW
   by_cases e:x=y
   ·rw [if_pos e];simp [h,e]
   ·rw [if_neg e,Je (by omega)];simp [e]
theorem Tryz.ae7 (l:List Int) (x:Int) (hl:l.length≤1000000):Pure Tryz.prog 53 [.list (l.map enI),.int .i64 x] [.int .i64 (FW 0 l x)]:=by
 refine Pure.of_wp hT (nt:=_) (c:=_) Tryz.func53 rfl rfl rfl rfl (by kernel_rfl) ?_
 intro w0 ok0 β0
 repeat first | refine W1 ?_ | refine W3 ?_ | ((first | refine W2 hT hM [] ?_ | refine W4 ?_ | refine W5 ?_ | refine W6 ?_ | refine W7 ?_ rfl);conv=>whnf)
 refine WP.loop (α:=Nat) (fun i=>⟨[(0,.d (.list (l.map enI))),(1,.d (.int .i64 x)),(7,.d (.int .i64 l.length)),(8,.d (.int .i64 i))],[],[]⟩)
  (fun i=>i≤l.length∧FW 0 l x=FW i (l.drop i) x) (fun i=>l.length-i) 0 [] [] ?_ ?_ ?_
 ·((conv=>whnf);repeat (first | exact True.intro | (refine And.intro (by first | rfl | exact ⟨rfl,rfl,rfl⟩ | exact ⟨rfl,rfl,by simp⟩ | exact ⟨rfl,rfl⟩ | exact ⟨rfl,by simp⟩ | (simp;done) | (simp;omega)) ?_;conv=>whnf)))
 ·simp
 ·rintro i ⟨hi,hx⟩
  repeat first | refine W1 ?_ | refine W3 ?_ | ((first | refine W2 hT hM [] ?_ | refine W4 ?_ | refine W5 ?_ | refine W6 ?_ | refine W7 ?_ rfl);conv=>whnf)
  (split<;>rename_i hb<;>(try rw [hb])<;>(conv=>whnf))
  ·have hlt:i<l.length:=by simpa using hb
   clear hb
   repeat first | refine W1 ?_ | refine W3 ?_ | ((first | refine W2 hT hM [] ?_ | refine W4 ?_ | refine W5 ?_ | refine W6 ?_ | refine W7 ?_ rfl);conv=>whnf)
   refine ⟨by omega,_,aZ hlt,rfl,?_⟩
   conv=>whnf
   repeat first | refine W1 ?_ | refine W3 ?_ | ((first | refine W2 hT hM [] ?_ | refine W4 ?_ | refine W5 ?_ | refine W6 ?_ | refine W7 ?_ rfl);conv=>whnf)
   rw [iH hlt] at hx
   (split<;>rename_i hb<;>(try rw [hb])<;>(conv=>whnf))
   ·have he:x=l[i]:=by simpa using hb
    repeat first | refine W1 ?_ | refine W3 ?_ | ((first | refine W2 hT hM [] ?_ | refine W4 ?_ | refine W5 ?_ | refine W6 ?_ | refine W7 ?_ rfl);conv=>whnf)
    rw [hx,FW,if_pos he]
   ·have he:x≠l[i]:=by simpa using hb
    repeat first | refine W1 ?_ | refine W3 ?_ | ((first | refine W2 hT hM [] ?_ | refine W4 ?_ | refine W5 ?_ | refine W6 ?_ | refine W7 ?_ rfl);conv=>whnf)
    refine ⟨by omega,?_⟩
    conv=>whnf
    refine ⟨i+1,[],[],?_,⟨by omega,?_⟩,by omega⟩
    ·((conv=>whnf);repeat (first | exact True.intro | (refine And.intro (by first | rfl | exact ⟨rfl,rfl,rfl⟩ | exact ⟨rfl,rfl,by simp⟩ | exact ⟨rfl,rfl⟩ | exact ⟨rfl,by simp⟩ | (simp;done) | (simp;omega)) ?_;conv=>whnf)))
    ·rw [hx,FW,if_neg he];rfl
  ·have hii:i=l.length:=by simp at hb;omega
   subst hii
   rw [List.drop_length] at hx
   repeat first | refine W1 ?_ | refine W3 ?_ | ((first | refine W2 hT hM [] ?_ | refine W4 ?_ | refine W5 ?_ | refine W6 ?_ | refine W7 ?_ rfl);conv=>whnf)
   rw [hx];rfl
theorem Tryz.Ew (l:List Int) (x:Int) (hl:l.length≤1000000):Pure Tryz.prog 25 [.list (l.map enI),.int .i64 x] [.bool (l.contains x)]:=by
 refine Pure.of_wp hT (nt:=_) (c:=_) Tryz.func25 rfl rfl rfl rfl (by kernel_rfl) ?_
 intro w0 ok0 β0
 repeat first | refine W1 ?_ | refine W3 ?_ | ((first | refine W2 hT hM [] ?_ | refine W4 ?_ | refine W5 ?_ | refine W6 ?_ | refine W7 ?_ rfl);conv=>whnf)
 refine .inl ⟨_,Tryz.ae7 l x hl,.inl rfl,?_⟩
 conv=>whnf
 repeat first | refine W1 ?_ | refine W3 ?_ | ((first | refine W2 hT hM [] ?_ | refine W4 ?_ | refine W5 ?_ | refine W6 ?_ | refine W7 ?_ rfl);conv=>whnf)
 congr 2
 rw [Bool.eq_iff_iff,List.contains_iff_mem,← Je (i:=0) (by decide)]
 simp
def BZ (l:List Int) (i:Nat):Prop:=(∀ j (h:j<l.length),j<i→0≤l[j])∧∀ j (h:j+1<l.length),j+1<i→l[j]<l[j+1]
theorem BZ.next {l:List Int} {i:Nat} (h:BZ l i) (hi:i<l.length) (h0:0≤l[i]) (h1:∀ h1:1≤i,l[i-1]'(by omega)<l[i]):BZ l (i+1):=by
 refine ⟨fun j hj hji=>?_,fun j hj hji=>?_⟩
 ·by_cases e:j=i
  ·subst e;exact h0
  ·exact h.1 j hj (by omega)
 ·by_cases e:j+1=i
  ·subst e;exact h1 (by omega)
  ·exact h.2 j hj (by omega)
theorem BZ.all {l:List Int} (h:BZ l l.length):MN l:=by
 refine ⟨fun n hn=>?_,show l.Pairwise (·<·) from lV (R:=fun a b:Int=>a<b) (fun a b c h k=>Int.lt_trans h k) fun i hi=>h.2 i hi hi⟩
 obtain ⟨j,hj,rfl⟩:=List.getElem_of_mem hn
 exact h.1 j hj hj
noncomputable def Qo (l:List Int):Bool:=@decide (MN l) (Classical.propDecidable _)
theorem wM {l:List Int}:Qo l=true↔MN l:=@decide_eq_true_iff _ (Classical.propDecidable _)
theorem Qn {l:List Int} (h:¬ MN l):Qo l=false:=@decide_eq_false _ (Classical.propDecidable _) h
theorem Qm {l:List Int} {i:Nat} (h1:1≤i) (h:i<l.length) (hn:l[i]≤l[i-1]):¬ MN l:=fun ha=>by
 have:=List.pairwise_iff_getElem.1 ha.2 (i-1) i (by omega) h (by omega)
 omega
theorem Tryz.MB (l:List Int) (hl:l.length≤1000000):Pure Tryz.prog 31 [.list (l.map enI)] [.bool (Qo l)]:=by
 refine Pure.of_wp hT (nt:=_) (c:=_) Tryz.func31 rfl rfl rfl rfl (by kernel_rfl) ?_
 intro w0 ok0 β0
 repeat first | refine W1 ?_ | refine W3 ?_ | ((first | refine W2 hT hM [] ?_ | refine W4 ?_ | refine W5 ?_ | refine W6 ?_ | refine W7 ?_ rfl);conv=>whnf)
 refine WP.loop (α:=Nat) (fun i=>⟨[(0,.d (.list (l.map enI))),(5,.d (.list (l.map enI))),(6,.d (.int .i64 l.length)),(7,.d (.int .i64 i))],[],[]⟩)
  (fun i=>i≤l.length∧BZ l i) (fun i=>l.length-i) 0 [] [] ?_ ?_ ?_
 ·((conv=>whnf);repeat (first | exact True.intro | (refine And.intro (by first | rfl | exact ⟨rfl,rfl,rfl⟩ | exact ⟨rfl,rfl,by simp⟩ | exact ⟨rfl,rfl⟩ | exact ⟨rfl,by simp⟩ | (simp;done) | (simp;omega)) ?_;conv=>whnf)))
 ·exact ⟨Nat.zero_le _,fun j h hj=>by omega,fun j h hj=>by omega⟩
 ·rintro i ⟨hi,ha⟩
  repeat first | refine W1 ?_ | refine W3 ?_ | ((first | refine W2 hT hM [] ?_ | refine W4 ?_ | refine W5 ?_ | refine W6 ?_ | refine W7 ?_ rfl);conv=>whnf)
  (split<;>rename_i hb<;>(try rw [hb])<;>(conv=>whnf))
  ·have hlt:i<l.length:=by simpa using hb
   clear hb
   repeat first | refine W1 ?_ | refine W3 ?_ | ((first | refine W2 hT hM [] ?_ | refine W4 ?_ | refine W5 ?_ | refine W6 ?_ | refine W7 ?_ rfl);conv=>whnf)
   refine ⟨by omega,_,aZ hlt,rfl,?_⟩
   conv=>whnf
   repeat first | refine W1 ?_ | refine W3 ?_ | ((first | refine W2 hT hM [] ?_ | refine W4 ?_ | refine W5 ?_ | refine W6 ?_ | refine W7 ?_ rfl);conv=>whnf)
   (split<;>rename_i hb<;>(try rw [hb])<;>(conv=>whnf))
   ·have hn:l[i]<0:=by simpa using hb
    repeat first | refine W1 ?_ | refine W3 ?_ | ((first | refine W2 hT hM [] ?_ | refine W4 ?_ | refine W5 ?_ | refine W6 ?_ | refine W7 ?_ rfl);conv=>whnf)
    rw [Qn fun h=>by have:=h.1 _ (List.getElem_mem hlt);omega]
   ·have h0:0≤l[i]:=by simp at hb;omega
    clear hb
    (split<;>rename_i hb<;>(try rw [hb])<;>(conv=>whnf))
    ·have hi0:1≤i:=by simp at hb;omega
     clear hb
     refine ⟨by omega,?_⟩
     conv=>whnf
     refine ⟨by omega,_,yM hi0 (by omega),rfl,?_⟩
     conv=>whnf
     repeat first | refine W1 ?_ | refine W3 ?_ | ((first | refine W2 hT hM [] ?_ | refine W4 ?_ | refine W5 ?_ | refine W6 ?_ | refine W7 ?_ rfl);conv=>whnf)
     (split<;>rename_i hb<;>(try rw [hb])<;>(conv=>whnf))
     ·have hle:l[i]≤l[i-1]:=by simpa using hb
      repeat first | refine W1 ?_ | refine W3 ?_ | ((first | refine W2 hT hM [] ?_ | refine W4 ?_ | refine W5 ?_ | refine W6 ?_ | refine W7 ?_ rfl);conv=>whnf)
      rw [Qn (Qm hi0 hlt hle)]
     ·have hgt:l[i-1]<l[i]:=by simp at hb;omega
      repeat first | refine W1 ?_ | refine W3 ?_ | ((first | refine W2 hT hM [] ?_ | refine W4 ?_ | refine W5 ?_ | refine W6 ?_ | refine W7 ?_ rfl);conv=>whnf)
      refine ⟨by omega,?_⟩
      conv=>whnf
      refine ⟨i+1,[],[],?_,⟨by omega,ha.next hlt h0 fun _=>hgt⟩,by omega⟩
      ((conv=>whnf);repeat (first | exact True.intro | (refine And.intro (by first | rfl | exact ⟨rfl,rfl,rfl⟩ | exact ⟨rfl,rfl,by simp⟩ | exact ⟨rfl,rfl⟩ | exact ⟨rfl,by simp⟩ | (simp;done) | (simp;omega)) ?_;conv=>whnf)))
    ·have hi0:¬ 1≤i:=by simp at hb;omega
     clear hb
     repeat first | refine W1 ?_ | refine W3 ?_ | ((first | refine W2 hT hM [] ?_ | refine W4 ?_ | refine W5 ?_ | refine W6 ?_ | refine W7 ?_ rfl);conv=>whnf)
     refine ⟨by omega,?_⟩
     conv=>whnf
     refine ⟨i+1,[],[],?_,⟨by omega,ha.next hlt h0 fun h=>absurd h hi0⟩,by omega⟩
     ((conv=>whnf);repeat (first | exact True.intro | (refine And.intro (by first | rfl | exact ⟨rfl,rfl,rfl⟩ | exact ⟨rfl,rfl,by simp⟩ | exact ⟨rfl,rfl⟩ | exact ⟨rfl,by simp⟩ | (simp;done) | (simp;omega)) ?_;conv=>whnf)))
  ·have hii:i=l.length:=by simp at hb;omega
   subst hii
   repeat first | refine W1 ?_ | refine W3 ?_ | ((first | refine W2 hT hM [] ?_ | refine W4 ?_ | refine W5 ?_ | refine W6 ?_ | refine W7 ?_ rfl);conv=>whnf)
   rw [wM.2 ha.all]
end Go.Proofs.YtoikephldpcpgaaGreatDoor
namespace Go.Proofs.YtoikephldpcpgaaGreatDoor
open Go Go.Abs Go.Own
attribute [local irreducible] WP
theorem IE {b:List Wt} {i:Nat} (h:¬ JV b i):vB b=false:=ahc fun hv=>h (hv.1 i)
theorem eqO (f:Fr):aT [.int .i64 f.1,.int .i64 f.2] [.int .i64 1,.int .i64 1]=decide (f=(1,1)):=eqQ f (1,1)
theorem Tryz.JZ (b:List Wt) (hl:b.length≤1000000) (hr:∀ w∈b,w.1.length≤1000000∧okI w.2):Pure Tryz.prog 11 [.list (b.map enW)] [.bool (vB b)]:=by
 refine Pure.of_wp hT (nt:=_) (c:=_) Tryz.func11 rfl rfl rfl rfl (by kernel_rfl) ?_
 intro w0 ok0 β0
 repeat first | refine W1 ?_ | refine W3 ?_ | ((first | refine W2 hT hM [] ?_ | refine W4 ?_ | refine W5 ?_ | refine W6 ?_ | refine W7 ?_ rfl);conv=>whnf)
 refine WP.loop (α:=Nat) (fun i=>⟨[(0,.d (.list (b.map enW))),(7,.d (.list (b.map enW))),(8,.d (.int .i64 b.length)),(9,.d (.int .i64 i))],[],[]⟩)
  (fun i=>i≤b.length∧∀ j,j<i→JV b j) (fun i=>b.length-i) 0 [] [] ?_ ?_ ?_
 ·((conv=>whnf);repeat (first | exact True.intro | (refine And.intro (by first | rfl | exact ⟨rfl,rfl,rfl⟩ | exact ⟨rfl,rfl,by simp⟩ | exact ⟨rfl,rfl⟩ | exact ⟨rfl,by simp⟩ | (simp;done) | (simp;omega)) ?_;conv=>whnf)))
 ·exact ⟨Nat.zero_le _,fun j hj=>by omega⟩
 ·rintro i ⟨hi,hok⟩
  repeat first | refine W1 ?_ | refine W3 ?_ | ((first | refine W2 hT hM [] ?_ | refine W4 ?_ | refine W5 ?_ | refine W6 ?_ | refine W7 ?_ rfl);conv=>whnf)
  (split<;>rename_i hb<;>(try rw [hb])<;>(conv=>whnf))
  ·have hlt:i<b.length:=by simpa using hb
   clear hb
   have hri:=hr _ (List.getElem_mem hlt)
   repeat first | refine W1 ?_ | refine W3 ?_ | ((first | refine W2 hT hM [] ?_ | refine W4 ?_ | refine W5 ?_ | refine W6 ?_ | refine W7 ?_ rfl);conv=>whnf)
   refine ⟨by omega,_,aZ hlt,rfl,?_⟩
   conv=>whnf
   repeat first | refine W1 ?_ | refine W3 ?_ | ((first | refine W2 hT hM [] ?_ | refine W4 ?_ | refine W5 ?_ | refine W6 ?_ | refine W7 ?_ rfl);conv=>whnf)
   refine .inl ⟨_,Tryz.MB b[i].1 hri.1,.inl rfl,?_⟩
   conv=>whnf
   have nope:(JV b i→False)→vB b=false:=fun h=>IE h
   have valid:=Tryz.valid b[i].2 hri.2.1 hri.2.2
   cases ha:Qo b[i].1 with
   | false=>
     conv=>whnf
     repeat first | refine W1 ?_ | refine W3 ?_ | ((first | refine W2 hT hM [] ?_ | refine W4 ?_ | refine W5 ?_ | refine W6 ?_ | refine W7 ?_ rfl);conv=>whnf)
     rw [nope fun h=>by rw [wM.2 (h hlt).1] at ha;cases ha]
   | true=>
     have hasc:=wM.1 ha
     conv=>whnf
     repeat first | refine W1 ?_ | refine W3 ?_ | ((first | refine W2 hT hM [] ?_ | refine W4 ?_ | refine W5 ?_ | refine W6 ?_ | refine W7 ?_ rfl);conv=>whnf)
     (split<;>rename_i hb<;>(try rw [hb])<;>(conv=>whnf))
     ·have hi0:1≤i:=by simp at hb;omega
      clear hb
      refine ⟨by omega,?_⟩
      conv=>whnf
      refine ⟨by omega,_,yM hi0 (by omega),rfl,?_⟩
      conv=>whnf
      have hrp:=hr _ (List.getElem_mem (show i-1<b.length by omega))
      refine .inl ⟨_,Tryz.zk b[i-1].1 b[i].1 hrp.1 hri.1,.inl rfl,?_⟩
      conv=>whnf
      repeat first | refine W1 ?_ | refine W3 ?_ | ((first | refine W2 hT hM [] ?_ | refine W4 ?_ | refine W5 ?_ | refine W6 ?_ | refine W7 ?_ rfl);conv=>whnf)
      (split<;>rename_i hb<;>(try rw [hb])<;>(conv=>whnf))
      ·have hc:0≤cmpL b[i-1].1 b[i].1:=by simpa using hb
       repeat first | refine W1 ?_ | refine W3 ?_ | ((first | refine W2 hT hM [] ?_ | refine W4 ?_ | refine W5 ?_ | refine W6 ?_ | refine W7 ?_ rfl);conv=>whnf)
       rw [nope fun h=>by have:=(h hlt).2.1 (i-1) (by omega);omega]
      ·have hc:cmpL b[i-1].1 b[i].1<0:=by simp at hb;omega
       clear hb
       refine .inl ⟨_,valid,.inl rfl,?_⟩
       conv=>whnf
       cases hv:okF b[i].2 with
       | false=>
         conv=>whnf
         repeat first | refine W1 ?_ | refine W3 ?_ | ((first | refine W2 hT hM [] ?_ | refine W4 ?_ | refine W5 ?_ | refine W6 ?_ | refine W7 ?_ rfl);conv=>whnf)
         rw [nope fun h=>by rw [(h hlt).2.2.1] at hv;cases hv]
       | true=>
         conv=>whnf
         repeat first | refine W1 ?_ | refine W3 ?_ | ((first | refine W2 hT hM [] ?_ | refine W4 ?_ | refine W5 ?_ | refine W6 ?_ | refine W7 ?_ rfl);conv=>whnf)
         (split<;>rename_i hb<;>(try rw [hb])<;>(conv=>whnf))
         ·have hn:b[i].2.1<1:=by simpa using hb
          repeat first | refine W1 ?_ | refine W3 ?_ | ((first | refine W2 hT hM [] ?_ | refine W4 ?_ | refine W5 ?_ | refine W6 ?_ | refine W7 ?_ rfl);conv=>whnf)
          rw [nope fun h=>by have:=(h hlt).2.2.2;omega]
         ·have hn:1≤b[i].2.1:=by simp at hb;omega
          repeat first | refine W1 ?_ | refine W3 ?_ | ((first | refine W2 hT hM [] ?_ | refine W4 ?_ | refine W5 ?_ | refine W6 ?_ | refine W7 ?_ rfl);conv=>whnf)
          refine ⟨by omega,?_⟩
          conv=>whnf
          refine ⟨i+1,[],[],?_,⟨by omega,fun j hj=>?_⟩,by omega⟩
          ·((conv=>whnf);repeat (first | exact True.intro | (refine And.intro (by first | rfl | exact ⟨rfl,rfl,rfl⟩ | exact ⟨rfl,rfl,by simp⟩ | exact ⟨rfl,rfl⟩ | exact ⟨rfl,by simp⟩ | (simp;done) | (simp;omega)) ?_;conv=>whnf)))
          ·by_cases e:j=i
           ·subst e;exact fun h=>⟨hasc,fun k hk=>by obtain rfl:k=j-1:=by omega
                                                    exact hc,hv,hn⟩
           ·exact hok j (by omega)
     ·have hi0:i=0:=by simp at hb;omega
      clear hb
      refine .inl ⟨_,valid,.inl rfl,?_⟩
      conv=>whnf
      cases hv:okF b[i].2 with
      | false=>
        conv=>whnf
        repeat first | refine W1 ?_ | refine W3 ?_ | ((first | refine W2 hT hM [] ?_ | refine W4 ?_ | refine W5 ?_ | refine W6 ?_ | refine W7 ?_ rfl);conv=>whnf)
        rw [nope fun h=>by rw [(h hlt).2.2.1] at hv;cases hv]
      | true=>
        conv=>whnf
        repeat first | refine W1 ?_ | refine W3 ?_ | ((first | refine W2 hT hM [] ?_ | refine W4 ?_ | refine W5 ?_ | refine W6 ?_ | refine W7 ?_ rfl);conv=>whnf)
        (split<;>rename_i hb<;>(try rw [hb])<;>(conv=>whnf))
        ·have hn:b[i].2.1<1:=by simpa using hb
         repeat first | refine W1 ?_ | refine W3 ?_ | ((first | refine W2 hT hM [] ?_ | refine W4 ?_ | refine W5 ?_ | refine W6 ?_ | refine W7 ?_ rfl);conv=>whnf)
         rw [nope fun h=>by have:=(h hlt).2.2.2;omega]
        ·have hn:1≤b[i].2.1:=by simp at hb;omega
         repeat first | refine W1 ?_ | refine W3 ?_ | ((first | refine W2 hT hM [] ?_ | refine W4 ?_ | refine W5 ?_ | refine W6 ?_ | refine W7 ?_ rfl);conv=>whnf)
         refine ⟨by omega,?_⟩
         conv=>whnf
         refine ⟨i+1,[],[],?_,⟨by omega,fun j hj=>?_⟩,by omega⟩
         ·((conv=>whnf);repeat (first | exact True.intro | (refine And.intro (by first | rfl | exact ⟨rfl,rfl,rfl⟩ | exact ⟨rfl,rfl,by simp⟩ | exact ⟨rfl,rfl⟩ | exact ⟨rfl,by simp⟩ | (simp;done) | (simp;omega)) ?_;conv=>whnf)))
         ·by_cases e:j=i
          ·subst e;exact fun h=>⟨hasc,fun k hk=>by omega,hv,hn⟩
          ·exact hok j (by omega)
  ·have hii:i=b.length:=by simp at hb;omega
   subst hii
   clear hb
   have hall:∀ i,JV b i:=fun i=>by
    by_cases h:i<b.length
    ·exact hok i h
    ·exact fun h'=>absurd h' h
   have hlp:(b.map (·.2)).length≤1000000:=by simpa using hl
   have hip:∀ f∈b.map (·.2),okI f:=fun f hf=>by obtain ⟨w,hw,rfl⟩:=List.mem_map.1 hf;exact (hr w hw).2
   repeat first | refine W1 ?_ | refine W3 ?_ | ((first | refine W2 hT hM [] ?_ | refine W4 ?_ | refine W5 ?_ | refine W6 ?_ | refine W7 ?_ rfl);conv=>whnf)
   refine .inl ⟨_,Tryz.Cm b hl,.inl rfl,?_⟩
   conv=>whnf
   refine .inl ⟨_,Tryz.sum (b.map (·.2)) hlp hip,.inl rfl,?_⟩
   conv=>whnf
   repeat first | refine W1 ?_ | refine W3 ?_ | ((first | refine W2 hT hM [] ?_ | refine W4 ?_ | refine W5 ?_ | refine W6 ?_ | refine W7 ?_ rfl);conv=>whnf)
   have hvb:∀ p:Bool,(p=true↔b≠[]∧sumF (0,1) (b.map (·.2))=((1,1),0))→vB b=p:=fun p hp=>by
    rw [Bool.eq_iff_iff,yY,hp]
    exact ⟨fun h=>⟨h.2.1,h.2.2⟩,fun h=>⟨hall,h.1,h.2⟩⟩
   have hne:b≠[]↔0<b.length:=by rw [List.length_pos_iff]
   (split<;>rename_i hb<;>(try rw [hb])<;>(conv=>whnf))
   ·have h1:0<b.length:=by simpa using hb
    clear hb
    (split<;>rename_i hb<;>(try rw [hb])<;>(conv=>whnf))
    ·have h2:(sumF (0,1) (b.map (·.2))).2=0:=by simpa using hb
     repeat first | refine W1 ?_ | refine W3 ?_ | ((first | refine W2 hT hM [] ?_ | refine W4 ?_ | refine W5 ?_ | refine W6 ?_ | refine W7 ?_ rfl);conv=>whnf)
     rw [eqO]
     rw [hvb (decide ((sumF (0,1) (b.map (·.2))).1=(1,1))) (by
      rw [decide_eq_true_iff,hne]
      constructor
      ·intro h;exact ⟨h1,Prod.ext h h2⟩
      ·intro h;rw [h.2])]
    ·have h2:(sumF (0,1) (b.map (·.2))).2≠0:=by simpa using hb
     repeat first | refine W1 ?_ | refine W3 ?_ | ((first | refine W2 hT hM [] ?_ | refine W4 ?_ | refine W5 ?_ | refine W6 ?_ | refine W7 ?_ rfl);conv=>whnf)
     rw [hvb false (by simp;intro _ h;rw [h] at h2;exact absurd rfl h2)]
   ·have h1:b=[]:=by simp at hb;exact hb
    repeat first | refine W1 ?_ | refine W3 ?_ | ((first | refine W2 hT hM [] ?_ | refine W4 ?_ | refine W5 ?_ | refine W6 ?_ | refine W7 ?_ rfl);conv=>whnf)
    rw [hvb false (by simp [h1])]
end Go.Proofs.YtoikephldpcpgaaGreatDoor
namespace Go.Proofs.YtoikephldpcpgaaGreatDoor
open Go Go.Abs Go.Own
attribute [local irreducible] WP
def nU (base:Int) (b:List Wt):List Wt:=b.filter fun w=>w.1.contains base
theorem Dk {base:Int} {b:List Wt} {i:Nat} (h:i<b.length):(nU base (b.take (i+1))).map (fun w=>enQ w.2)=(nU base (b.take i)).map (fun w=>enQ w.2)++(if b[i].1.contains base then [enQ b[i].2] else []):=by
 unfold nU
 rw [List.take_succ_eq_append_getElem h,List.filter_append,List.map_append]
 congr 1
 cases hc:b[i].1.contains base
 ·have h0:¬ (fun w:Wt=>w.1.contains base) b[i]=true:=by simp only [hc];simp
  rw [List.filter_cons_of_neg (p:=fun w:Wt=>w.1.contains base) h0];rfl
 ·have h0:(fun w:Wt=>w.1.contains base) b[i]=true:=hc
  rw [List.filter_cons_of_pos (p:=fun w:Wt=>w.1.contains base) h0];rfl
theorem yG (base:Int) (b:List Wt):(nU base b).length≤b.length:=List.length_filter_le _ _
theorem Tryz.holds (b:List Wt) (base:Int) (hl:b.length≤1000000) (hr:∀ w∈b,w.1.length≤1000000∧okI w.2) :
  Pure Tryz.prog 7 [.list (b.map enW),.int .i64 base] [enQ (holdsB b base).1,.int .i64 (holdsB b base).2]:=by
 have h16:(T 28).bytes=16:=rfl
 refine Pure.of_wp hT (nt:=_) (c:=_) Tryz.func7 rfl rfl rfl rfl (by kernel_rfl) ?_
 intro w0 ok0 β0
 repeat first | refine W1 ?_ | refine W3 ?_ | ((first | refine W2 hT hM [] ?_ | refine W4 ?_ | refine W5 ?_ | refine W6 ?_ | refine W7 ?_ rfl);conv=>whnf)
 refine .inl ⟨_,Tryz.JZ b hl hr,.inl rfl,?_⟩
 conv=>whnf
 cases hv:vB b with
 | false=>
   conv=>whnf
   repeat first | refine W1 ?_ | refine W3 ?_ | ((first | refine W2 hT hM [] ?_ | refine W4 ?_ | refine W5 ?_ | refine W6 ?_ | refine W7 ?_ rfl);conv=>whnf)
   unfold holdsB;rw [hv];rfl
 | true=>
   conv=>whnf
   repeat first | refine W1 ?_ | refine W3 ?_ | ((first | refine W2 hT hM [] ?_ | refine W4 ?_ | refine W5 ?_ | refine W6 ?_ | refine W7 ?_ rfl);conv=>whnf)
   refine WP.loop (α:=Nat×List D) (fun x=>⟨[(0,.d (.list (b.map enW))),(1,.d (.int .i64 base)),(4,.ptr 4 0),(5,.d (.int .i64 0)),(6,QV 6 2 x.2),(13,.d (.list (b.map enW))),(14,.d (.int .i64 b.length)),(15,.d (.int .i64 x.1))],
     ((4,0),some (.cell (.d (.int .i64 0))))::((4,1),some (.cell (.d (.int .i64 0))))::QY 6 2 x.2,4::QW 6 x.2⟩)
    (fun x=>x.1≤b.length∧x.2=(nU base (b.take x.1)).map fun w=>enQ w.2) (fun x=>b.length-x.1) (0,[]) [(4,some 4)] [] ?_ ?_ ?_
   ·((conv=>whnf);repeat (first | exact True.intro | (refine And.intro (by first | rfl | exact ⟨rfl,rfl,rfl⟩ | exact ⟨rfl,rfl,by simp⟩ | exact ⟨rfl,rfl⟩ | exact ⟨rfl,by simp⟩ | (simp;done) | (simp;omega)) ?_;conv=>whnf)))
   ·simp [nU]
   ·rintro ⟨i,s⟩ ⟨hi,hs⟩
    simp only at hi hs
    repeat first | refine W1 ?_ | refine W3 ?_ | ((first | refine W2 hT hM [] ?_ | refine W4 ?_ | refine W5 ?_ | refine W6 ?_ | refine W7 ?_ rfl);conv=>whnf)
    (split<;>rename_i hb<;>(try rw [hb])<;>(conv=>whnf))
    ·have hlt:i<b.length:=by simpa using hb
     clear hb
     have hnx:=Dk (base:=base) hlt
     rw [← hs] at hnx
     have hri:=hr _ (List.getElem_mem hlt)
     have hsl:s.length≤1000000:=by rw [hs,List.length_map];exact Nat.le_trans (yG _ _) (by simp;omega)
     cases s with
     | nil=>
       repeat first | refine W1 ?_ | refine W3 ?_ | ((first | refine W2 hT hM [] ?_ | refine W4 ?_ | refine W5 ?_ | refine W6 ?_ | refine W7 ?_ rfl);conv=>whnf)
       refine ⟨by omega,_,aZ hlt,rfl,?_⟩
       conv=>whnf
       repeat first | refine W1 ?_ | refine W3 ?_ | ((first | refine W2 hT hM [] ?_ | refine W4 ?_ | refine W5 ?_ | refine W6 ?_ | refine W7 ?_ rfl);conv=>whnf)
       refine .inl ⟨_,Tryz.Ew b[i].1 base hri.1,.inl rfl,?_⟩
       conv=>whnf
       cases hc:b[i].1.contains base with
       | true=>
         rw [hc,if_pos rfl] at hnx
         conv=>whnf
         repeat first | refine W1 ?_ | refine W3 ?_ | ((first | refine W2 hT hM [] ?_ | refine W4 ?_ | refine W5 ?_ | refine W6 ?_ | refine W7 ?_ rfl);conv=>whnf)
         refine ⟨rfl,?_⟩
         conv=>whnf
         refine ⟨_,rfl,Nat.le_refl _,Nat.le_of_ble_eq_true rfl,?_⟩
         conv=>whnf
         repeat first | refine W1 ?_ | refine W3 ?_ | ((first | refine W2 hT hM [] ?_ | refine W4 ?_ | refine W5 ?_ | refine W6 ?_ | refine W7 ?_ rfl);conv=>whnf)
         refine ⟨by simp only;omega,?_⟩
         conv=>whnf
         refine ⟨(i+1,[enQ b[i].2]),[(4,some 4),(6,some 27)],[],?_,⟨by simp only;omega,hnx.symm⟩,by simp only;omega⟩
         ((conv=>whnf);repeat (first | exact True.intro | (refine And.intro (by first | rfl | exact ⟨rfl,rfl,rfl⟩ | exact ⟨rfl,rfl,by simp⟩ | exact ⟨rfl,rfl⟩ | exact ⟨rfl,by simp⟩ | (simp;done) | (simp;omega)) ?_;conv=>whnf)))
       | false=>
         rw [hc,if_neg (by simp),List.append_nil] at hnx
         conv=>whnf
         repeat first | refine W1 ?_ | refine W3 ?_ | ((first | refine W2 hT hM [] ?_ | refine W4 ?_ | refine W5 ?_ | refine W6 ?_ | refine W7 ?_ rfl);conv=>whnf)
         refine ⟨by simp only;omega,?_⟩
         conv=>whnf
         refine ⟨(i+1,[]),[(4,some 4)],[],?_,⟨by simp only;omega,hnx.symm⟩,by simp only;omega⟩
         ((conv=>whnf);repeat (first | exact True.intro | (refine And.intro (by first | rfl | exact ⟨rfl,rfl,rfl⟩ | exact ⟨rfl,rfl,by simp⟩ | exact ⟨rfl,rfl⟩ | exact ⟨rfl,by simp⟩ | (simp;done) | (simp;omega)) ?_;conv=>whnf)))
     | cons c u=>
       repeat first | refine W1 ?_ | refine W3 ?_ | ((first | refine W2 hT hM [] ?_ | refine W4 ?_ | refine W5 ?_ | refine W6 ?_ | refine W7 ?_ rfl);conv=>whnf)
       refine ⟨by omega,_,aZ hlt,rfl,?_⟩
       conv=>whnf
       repeat first | refine W1 ?_ | refine W3 ?_ | ((first | refine W2 hT hM [] ?_ | refine W4 ?_ | refine W5 ?_ | refine W6 ?_ | refine W7 ?_ rfl);conv=>whnf)
       refine .inl ⟨_,Tryz.Ew b[i].1 base hri.1,.inl rfl,?_⟩
       conv=>whnf
       cases hc:b[i].1.contains base with
       | true=>
         rw [hc,if_pos rfl] at hnx
         conv=>whnf
         repeat first | refine W1 ?_ | refine W3 ?_ | ((first | refine W2 hT hM [] ?_ | refine W4 ?_ | refine W5 ?_ | refine W6 ?_ | refine W7 ?_ rfl);conv=>whnf)
         refine ⟨rfl,?_⟩
         conv=>whnf
         refine ⟨c::u,by rw [List.drop_zero,List.take_of_length_le (Nat.le_refl _)],by simp,?_⟩
         conv=>whnf
         refine ⟨_,rfl,Nat.le_refl _,?_,?_⟩
         ·rw [h16]
          have h1:∀ x:D,(List.take [x].length (List.drop 0 [x])).length=1:=fun _=>rfl
          simp only [h1];omega
         conv=>whnf
         repeat first | refine W1 ?_ | refine W3 ?_ | ((first | refine W2 hT hM [] ?_ | refine W4 ?_ | refine W5 ?_ | refine W6 ?_ | refine W7 ?_ rfl);conv=>whnf)
         refine ⟨by simp only;omega,?_⟩
         conv=>whnf
         refine ⟨(i+1,(c::u)++[enQ b[i].2]),[(4,some 4),(6,some 27)],[],?_,⟨by simp only;omega,hnx.symm⟩,by simp only;omega⟩
         ((conv=>whnf);repeat (first | exact True.intro | (refine And.intro (by first | rfl | exact ⟨rfl,rfl,rfl⟩ | exact ⟨rfl,rfl,by simp⟩ | exact ⟨rfl,rfl⟩ | exact ⟨rfl,by simp⟩ | (simp;done) | (simp;omega)) ?_;conv=>whnf)))
       | false=>
         rw [hc,if_neg (by simp),List.append_nil] at hnx
         conv=>whnf
         repeat first | refine W1 ?_ | refine W3 ?_ | ((first | refine W2 hT hM [] ?_ | refine W4 ?_ | refine W5 ?_ | refine W6 ?_ | refine W7 ?_ rfl);conv=>whnf)
         refine ⟨by simp only;omega,?_⟩
         conv=>whnf
         refine ⟨(i+1,c::u),[(4,some 4),(6,some 6)],[],?_,⟨by simp only;omega,hnx.symm⟩,by simp only;omega⟩
         ((conv=>whnf);repeat (first | exact True.intro | (refine And.intro (by first | rfl | exact ⟨rfl,rfl,rfl⟩ | exact ⟨rfl,rfl,by simp⟩ | exact ⟨rfl,rfl⟩ | exact ⟨rfl,by simp⟩ | (simp;done) | (simp;omega)) ?_;conv=>whnf)))
    ·have hii:i=b.length:=by simp at hb;omega
     subst hii
     clear hb
     rw [List.take_length] at hs
     have hsum:=Tryz.sum ((nU base b).map (·.2)) (by rw [List.length_map];exact Nat.le_trans (yG _ _) hl) (fun f hf=>by
      obtain ⟨w,hw,rfl⟩:=List.mem_map.1 hf;exact (hr w (List.mem_filter.1 hw).1).2)
     have hms:((nU base b).map (·.2)).map enQ=s:=by rw [hs,List.map_map];rfl
     have hh:holdsB b base=sumF (0,1) ((nU base b).map (·.2)):=by unfold holdsB;rw [hv];rfl
     rw [hms] at hsum
     rw [hh]
     cases s with
     | nil=>
       repeat first | refine W1 ?_ | refine W3 ?_ | ((first | refine W2 hT hM [] ?_ | refine W4 ?_ | refine W5 ?_ | refine W6 ?_ | refine W7 ?_ rfl);conv=>whnf)
       refine .inl ⟨_,hsum,.inl rfl,?_⟩
       conv=>whnf
       repeat first | refine W1 ?_ | refine W3 ?_ | ((first | refine W2 hT hM [] ?_ | refine W4 ?_ | refine W5 ?_ | refine W6 ?_ | refine W7 ?_ rfl);conv=>whnf)
       rfl
     | cons c u=>
       repeat first | refine W1 ?_ | refine W3 ?_ | ((first | refine W2 hT hM [] ?_ | refine W4 ?_ | refine W5 ?_ | refine W6 ?_ | refine W7 ?_ rfl);conv=>whnf)
       refine .inl ⟨c::u,by rw [List.drop_zero,List.take_of_length_le (Nat.le_refl _)],by simp,?_⟩
       conv=>whnf
       refine ⟨_,hsum,.inr rfl,?_⟩
       conv=>whnf
       repeat first | refine W1 ?_ | refine W3 ?_ | ((first | refine W2 hT hM [] ?_ | refine W4 ?_ | refine W5 ?_ | refine W6 ?_ | refine W7 ?_ rfl);conv=>whnf)
       rfl
end Go.Proofs.YtoikephldpcpgaaGreatDoor
namespace Go.Proofs.YtoikephldpcpgaaGreatDoor
open Go Go.Abs Go.Own
attribute [local irreducible] WP
theorem Tryz.vG (n:Int) (h:I64 n):Pure Tryz.prog 60 [.int .i64 n] [enU n.natAbs]:=by
 refine Pure.of_wp hT (nt:=_) (c:=_) Tryz.func60 rfl rfl rfl rfl (by kernel_rfl) ?_
 intro w0 ok0 β0
 obtain ⟨h1,h2⟩:=h
 repeat first | refine W1 ?_ | refine W3 ?_ | ((first | refine W2 hT hM [] ?_ | refine W4 ?_ | refine W5 ?_ | refine W6 ?_ | refine W7 ?_ rfl);conv=>whnf)
 (split<;>rename_i hb<;>(try rw [hb])<;>(conv=>whnf))
 ·have hn:n<0:=by simpa using hb
  repeat first | refine W1 ?_ | refine W3 ?_ | ((first | refine W2 hT hM [] ?_ | refine W4 ?_ | refine W5 ?_ | refine W6 ?_ | refine W7 ?_ rfl);conv=>whnf)
  refine ⟨by omega,?_⟩
  conv=>whnf
  refine ⟨by omega,?_⟩
  conv=>whnf
  repeat first | refine W1 ?_ | refine W3 ?_ | ((first | refine W2 hT hM [] ?_ | refine W4 ?_ | refine W5 ?_ | refine W6 ?_ | refine W7 ?_ rfl);conv=>whnf)
  rw [yV (0-(n+1)) (by omega) (by omega),yV _ (by omega) (by omega)]
  unfold enU;congr 2;omega
 ·have hn:¬ n<0:=by simpa using hb
  repeat first | refine W1 ?_ | refine W3 ?_ | ((first | refine W2 hT hM [] ?_ | refine W4 ?_ | refine W5 ?_ | refine W6 ?_ | refine W7 ?_ rfl);conv=>whnf)
  rw [yV n (by omega) (by omega)]
  unfold enU;congr 2;omega
theorem Tryz.aaK (a b:Nat) (ha:a<18446744073709551616) (hb:b<18446744073709551616):Pure Tryz.prog 59 [enU a,enU b] [enU (a.gcd b)]:=by
 refine Pure.of_wp hT (nt:=_) (c:=_) Tryz.func59 rfl rfl rfl rfl (by kernel_rfl) ?_
 intro w0 ok0 β0
 repeat first | refine W1 ?_ | refine W3 ?_ | ((first | refine W2 hT hM [] ?_ | refine W4 ?_ | refine W5 ?_ | refine W6 ?_ | refine W7 ?_ rfl);conv=>whnf)
 refine WP.loop (α:=Nat×Nat) (fun p=>⟨[(0,.d (enU p.1)),(1,.d (enU p.2))],[],[]⟩) (fun p=>p.1.gcd p.2=a.gcd b) (fun p=>p.2) (a,b) [] [] ?_ ?_ ?_
 ·((conv=>whnf);repeat (first | exact True.intro | (refine And.intro (by first | rfl | exact ⟨rfl,rfl,rfl⟩ | exact ⟨rfl,rfl,by simp⟩ | exact ⟨rfl,rfl⟩ | exact ⟨rfl,by simp⟩ | (simp;done) | (simp;omega)) ?_;conv=>whnf)))
 ·rfl
 ·rintro ⟨x,y⟩ hi
  repeat first | refine W1 ?_ | refine W3 ?_ | ((first | refine W2 hT hM [] ?_ | refine W4 ?_ | refine W5 ?_ | refine W6 ?_ | refine W7 ?_ rfl);conv=>whnf)
  (split<;>rename_i hb<;>(try rw [hb])<;>(conv=>whnf))
  ·have hy:y≠0:=by simp at hb;omega
   repeat first | refine W1 ?_ | refine W3 ?_ | ((first | refine W2 hT hM [] ?_ | refine W4 ?_ | refine W5 ?_ | refine W6 ?_ | refine W7 ?_ rfl);conv=>whnf)
   refine ⟨by simpa using hy,?_⟩
   conv=>whnf
   repeat first | refine W1 ?_ | refine W3 ?_ | ((first | refine W2 hT hM [] ?_ | refine W4 ?_ | refine W5 ?_ | refine W6 ?_ | refine W7 ?_ rfl);conv=>whnf)
   refine ⟨(y,x % y),[],[],?_,?_,Nat.mod_lt _ (by omega)⟩
   ·((conv=>whnf);repeat (first | exact True.intro | (refine And.intro (by first | rfl | exact ⟨rfl,rfl,rfl⟩ | exact ⟨rfl,rfl,by simp⟩ | exact ⟨rfl,rfl⟩ | exact ⟨rfl,by simp⟩ | (simp;done) | (simp;omega)) ?_;conv=>whnf)))
   ·show y.gcd (x % y)=_
    rw [← hi,Nat.gcd_comm y,← Nat.gcd_rec,Nat.gcd_comm]
  ·have hy:y=0:=by simp at hb;omega
   subst hy
   repeat first | refine W1 ?_ | refine W3 ?_ | ((first | refine W2 hT hM [] ?_ | refine W4 ?_ | refine W5 ?_ | refine W6 ?_ | refine W7 ?_ rfl);conv=>whnf)
   rw [← hi];show _=[enU (x.gcd 0)];rw [Nat.gcd_zero_right]
theorem Tryz.EK (f:Fr) (h1:I64 f.1) (h2:I64 f.2):Pure Tryz.prog 36 [enQ f] [.bool (okF f)]:=by
 have b1:f.1.natAbs<18446744073709551616:=by have:=h1.1;have:=h1.2;omega
 have b2:f.2.natAbs<18446744073709551616:=by have:=h2.1;have:=h2.2;omega
 refine Pure.of_wp hT (nt:=_) (c:=_) Tryz.func36 rfl rfl rfl rfl (by kernel_rfl) ?_
 intro w0 ok0 β0
 repeat first | refine W1 ?_ | refine W3 ?_ | ((first | refine W2 hT hM [] ?_ | refine W4 ?_ | refine W5 ?_ | refine W6 ?_ | refine W7 ?_ rfl);conv=>whnf)
 (split<;>rename_i hb<;>(try rw [hb])<;>(conv=>whnf))
 rotate_left
 ·have hn:¬ 1≤f.2:=by simpa using hb
  repeat first | refine W1 ?_ | refine W3 ?_ | ((first | refine W2 hT hM [] ?_ | refine W4 ?_ | refine W5 ?_ | refine W6 ?_ | refine W7 ?_ rfl);conv=>whnf)
  have:okF f=false:=Bool.eq_false_iff.2 fun h=>hn (dA.1 h).1
  rw [this]
 have k1:1≤f.2:=by simpa using hb
 clear hb
 (split<;>rename_i hb<;>(try rw [hb])<;>(conv=>whnf))
 rotate_left
 ·have hn:¬ f.2≤mst:=by simpa [mst] using hb
  repeat first | refine W1 ?_ | refine W3 ?_ | ((first | refine W2 hT hM [] ?_ | refine W4 ?_ | refine W5 ?_ | refine W6 ?_ | refine W7 ?_ rfl);conv=>whnf)
  have:okF f=false:=Bool.eq_false_iff.2 fun h=>hn (dA.1 h).2.1
  rw [this]
 have k2:f.2≤mst:=by simpa [mst] using hb
 clear hb
 (split<;>rename_i hb<;>(try rw [hb])<;>(conv=>whnf))
 rotate_left
 ·have hn:¬ -(mst:Int)≤f.1:=by simpa [mst] using hb
  repeat first | refine W1 ?_ | refine W3 ?_ | ((first | refine W2 hT hM [] ?_ | refine W4 ?_ | refine W5 ?_ | refine W6 ?_ | refine W7 ?_ rfl);conv=>whnf)
  have:okF f=false:=Bool.eq_false_iff.2 fun h=>hn (dA.1 h).2.2.1
  rw [this]
 have k3:-(mst:Int)≤f.1:=by simpa [mst] using hb
 clear hb
 (split<;>rename_i hb<;>(try rw [hb])<;>(conv=>whnf))
 rotate_left
 ·have hn:¬ f.1≤mst:=by simpa [mst] using hb
  repeat first | refine W1 ?_ | refine W3 ?_ | ((first | refine W2 hT hM [] ?_ | refine W4 ?_ | refine W5 ?_ | refine W6 ?_ | refine W7 ?_ rfl);conv=>whnf)
  have:okF f=false:=Bool.eq_false_iff.2 fun h=>hn (dA.1 h).2.2.2.1
  rw [this]
 have k4:f.1≤mst:=by simpa [mst] using hb
 clear hb
 refine .inl ⟨_,Tryz.vG f.1 h1,.inl rfl,?_⟩
 conv=>whnf
 refine .inl ⟨_,Tryz.vG f.2 h2,.inl rfl,?_⟩
 conv=>whnf
 refine .inl ⟨_,Tryz.aaK _ _ b1 b2,.inl rfl,?_⟩
 conv=>whnf
 repeat first | refine W1 ?_ | refine W3 ?_ | ((first | refine W2 hT hM [] ?_ | refine W4 ?_ | refine W5 ?_ | refine W6 ?_ | refine W7 ?_ rfl);conv=>whnf)
 congr 2
 rw [Bool.eq_iff_iff,dA]
 constructor
 ·intro h
  have h:((f.1.natAbs.gcd f.2.natAbs:Nat):Int)=1:=by simpa using h
  exact ⟨k1,k2,k3,k4,by omega⟩
 ·intro h
  have h5:((f.1.natAbs.gcd f.2.natAbs:Nat):Int)=1:=by have:=h.2.2.2.2;omega
  simpa using h5
theorem Tryz.RJ (a b:Fr) (ka:okF a=true) (kb:okF b=true):Pure Tryz.prog 30 [enQ a,enQ b] [.int .i64 (kD a b)]:=by
 refine Pure.of_wp hT (nt:=_) (c:=_) Tryz.func30 rfl rfl rfl rfl (by kernel_rfl) ?_
 intro w0 ok0 β0
 obtain ⟨a1,a2,a3,a4,_⟩:=dA.1 ka
 obtain ⟨b1,b2,b3,b4,_⟩:=dA.1 kb
 have m1:=kX a3 a4 b1 b2
 have m2:=kX b3 b4 a1 a2
 repeat first | refine W1 ?_ | refine W3 ?_ | ((first | refine W2 hT hM [] ?_ | refine W4 ?_ | refine W5 ?_ | refine W6 ?_ | refine W7 ?_ rfl);conv=>whnf)
 refine ⟨by omega,?_⟩
 conv=>whnf
 refine ⟨by omega,?_⟩
 conv=>whnf
 repeat first | refine W1 ?_ | refine W3 ?_ | ((first | refine W2 hT hM [] ?_ | refine W4 ?_ | refine W5 ?_ | refine W6 ?_ | refine W7 ?_ rfl);conv=>whnf)
 (split<;>rename_i hb<;>(try rw [hb])<;>(conv=>whnf))
 ·have h1:a.1*b.2<b.1*a.2:=by simpa using hb
  repeat first | refine W1 ?_ | refine W3 ?_ | ((first | refine W2 hT hM [] ?_ | refine W4 ?_ | refine W5 ?_ | refine W6 ?_ | refine W7 ?_ rfl);conv=>whnf)
  unfold kD;rw [if_pos h1]
 ·have h1:¬ a.1*b.2<b.1*a.2:=by simpa using hb
  clear hb
  repeat first | refine W1 ?_ | refine W3 ?_ | ((first | refine W2 hT hM [] ?_ | refine W4 ?_ | refine W5 ?_ | refine W6 ?_ | refine W7 ?_ rfl);conv=>whnf)
  (split<;>rename_i hb<;>(try rw [hb])<;>(conv=>whnf))
  ·have h2:b.1*a.2<a.1*b.2:=by simpa using hb
   repeat first | refine W1 ?_ | refine W3 ?_ | ((first | refine W2 hT hM [] ?_ | refine W4 ?_ | refine W5 ?_ | refine W6 ?_ | refine W7 ?_ rfl);conv=>whnf)
   unfold kD;rw [if_neg h1,if_pos h2]
  ·have h2:¬ b.1*a.2<a.1*b.2:=by simpa using hb
   repeat first | refine W1 ?_ | refine W3 ?_ | ((first | refine W2 hT hM [] ?_ | refine W4 ?_ | refine W5 ?_ | refine W6 ?_ | refine W7 ?_ rfl);conv=>whnf)
   unfold kD;rw [if_neg h1,if_neg h2]
end Go.Proofs.YtoikephldpcpgaaGreatDoor
namespace Go.Proofs.YtoikephldpcpgaaGreatDoor
open Go Go.Abs Go.Own
attribute [local irreducible] WP
theorem Tryz.aeS (n d:Int) (hn:I64 n) (hd:I64 d):Pure Tryz.prog 85 [.int .i64 n,.int .i64 d] [enQ (mkF n d).1,.int .i64 (mkF n d).2]:=by
 refine Pure.of_wp hT (nt:=_) (c:=_) Tryz.func85 rfl rfl rfl rfl (by kernel_rfl) ?_
 intro w0 ok0 β0
 have b1:n.natAbs<18446744073709551616:=by have:=hn.1;have:=hn.2;omega
 have b2:d.natAbs<18446744073709551616:=by have:=hd.1;have:=hd.2;omega
 repeat first | refine W1 ?_ | refine W3 ?_ | ((first | refine W2 hT hM [] ?_ | refine W4 ?_ | refine W5 ?_ | refine W6 ?_ | refine W7 ?_ rfl);conv=>whnf)
 (split<;>rename_i hb<;>(try rw [hb])<;>(conv=>whnf))
 ·have h0:d=0:=by simpa using hb
  subst h0
  repeat first | refine W1 ?_ | refine W3 ?_ | ((first | refine W2 hT hM [] ?_ | refine W4 ?_ | refine W5 ?_ | refine W6 ?_ | refine W7 ?_ rfl);conv=>whnf)
  rfl
 ·have h0:d≠0:=by simpa using hb
  repeat first | refine W1 ?_ | refine W3 ?_ | ((first | refine W2 hT hM [] ?_ | refine W4 ?_ | refine W5 ?_ | refine W6 ?_ | refine W7 ?_ rfl);conv=>whnf)
  refine .inl ⟨_,Tryz.vG n hn,.inl rfl,?_⟩
  conv=>whnf
  repeat first | refine W1 ?_ | refine W3 ?_ | ((first | refine W2 hT hM [] ?_ | refine W4 ?_ | refine W5 ?_ | refine W6 ?_ | refine W7 ?_ rfl);conv=>whnf)
  refine .inl ⟨_,Tryz.vG d hd,.inl rfl,?_⟩
  conv=>whnf
  repeat first | refine W1 ?_ | refine W3 ?_ | ((first | refine W2 hT hM [] ?_ | refine W4 ?_ | refine W5 ?_ | refine W6 ?_ | refine W7 ?_ rfl);conv=>whnf)
  refine .inl ⟨_,Tryz.aaK _ _ b1 b2,.inl rfl,?_⟩
  conv=>whnf
  repeat first | refine W1 ?_ | refine W3 ?_ | ((first | refine W2 hT hM [] ?_ | refine W4 ?_ | refine W5 ?_ | refine W6 ?_ | refine W7 ?_ rfl);conv=>whnf)
  refine .inl ⟨_,Tryz.vG n hn,.inl rfl,?_⟩
  conv=>whnf
  repeat first | refine W1 ?_ | refine W3 ?_ | ((first | refine W2 hT hM [] ?_ | refine W4 ?_ | refine W5 ?_ | refine W6 ?_ | refine W7 ?_ rfl);conv=>whnf)
  have em:mkF n d=if n.natAbs / n.natAbs.gcd d.natAbs>mst∨d.natAbs / n.natAbs.gcd d.natAbs>mst then ((0,0),12) else
    ((if n<0↔d<0 then ((n.natAbs / n.natAbs.gcd d.natAbs:Nat):Int) else -((n.natAbs / n.natAbs.gcd d.natAbs:Nat):Int),((d.natAbs / n.natAbs.gcd d.natAbs:Nat):Int)),0):=by
   unfold mkF;rw [if_neg h0]
  have hg:n.natAbs.gcd d.natAbs≠0:=fun e=>h0 (by have:=Nat.eq_zero_of_gcd_eq_zero_right e;omega)
  generalize n.natAbs.gcd d.natAbs=g at em hg ⊢
  refine ⟨by omega,?_⟩
  conv=>whnf
  rw [YR _ _ b1]
  refine .inl ⟨_,Tryz.vG d hd,.inl rfl,?_⟩
  conv=>whnf
  refine ⟨by omega,?_⟩
  conv=>whnf
  rw [YR _ _ b2]
  generalize n.natAbs / g=a at em ⊢
  generalize d.natAbs / g=c at em ⊢
  repeat first | refine W1 ?_ | refine W3 ?_ | ((first | refine W2 hT hM [] ?_ | refine W4 ?_ | refine W5 ?_ | refine W6 ?_ | refine W7 ?_ rfl);conv=>whnf)
  (split<;>rename_i hb<;>(try rw [hb])<;>(conv=>whnf))
  ·have ha:a>mst:=by simp [mst] at hb ⊢;omega
   repeat first | refine W1 ?_ | refine W3 ?_ | ((first | refine W2 hT hM [] ?_ | refine W4 ?_ | refine W5 ?_ | refine W6 ?_ | refine W7 ?_ rfl);conv=>whnf)
   rw [em,if_pos (.inl ha)];rfl
  ·have ha:¬ a>mst:=by simp [mst] at hb ⊢;omega
   clear hb
   repeat first | refine W1 ?_ | refine W3 ?_ | ((first | refine W2 hT hM [] ?_ | refine W4 ?_ | refine W5 ?_ | refine W6 ?_ | refine W7 ?_ rfl);conv=>whnf)
   (split<;>rename_i hb<;>(try rw [hb])<;>(conv=>whnf))
   ·have hc:c>mst:=by simp [mst] at hb ⊢;omega
    repeat first | refine W1 ?_ | refine W3 ?_ | ((first | refine W2 hT hM [] ?_ | refine W4 ?_ | refine W5 ?_ | refine W6 ?_ | refine W7 ?_ rfl);conv=>whnf)
    rw [em,if_pos (.inr hc)];rfl
   ·have hc:¬ c>mst:=by simp [mst] at hb ⊢;omega
    clear hb
    rw [if_neg (by omega)] at em
    unfold mst at ha hc
    repeat first | refine W1 ?_ | refine W3 ?_ | ((first | refine W2 hT hM [] ?_ | refine W4 ?_ | refine W5 ?_ | refine W6 ?_ | refine W7 ?_ rfl);conv=>whnf)
    (split<;>rename_i hb<;>(try rw [hb])<;>(conv=>whnf))
    ·have hs:¬ (n<0↔d<0):=by simp at hb;intro h;simp [h] at hb
     repeat first | refine W1 ?_ | refine W3 ?_ | ((first | refine W2 hT hM [] ?_ | refine W4 ?_ | refine W5 ?_ | refine W6 ?_ | refine W7 ?_ rfl);conv=>whnf)
     (repeat (refine ⟨by first | rfl | omega,?_⟩;conv=>whnf))
     repeat first | refine W1 ?_ | refine W3 ?_ | ((first | refine W2 hT hM [] ?_ | refine W4 ?_ | refine W5 ?_ | refine W6 ?_ | refine W7 ?_ rfl);conv=>whnf)
     (repeat (refine ⟨by first | rfl | omega,?_⟩;conv=>whnf))
     repeat first | refine W1 ?_ | refine W3 ?_ | ((first | refine W2 hT hM [] ?_ | refine W4 ?_ | refine W5 ?_ | refine W6 ?_ | refine W7 ?_ rfl);conv=>whnf)
     rw [em,if_neg hs,Int.zero_sub]
     rfl
    ·have hs:(n<0↔d<0):=by simpa using hb
     repeat first | refine W1 ?_ | refine W3 ?_ | ((first | refine W2 hT hM [] ?_ | refine W4 ?_ | refine W5 ?_ | refine W6 ?_ | refine W7 ?_ rfl);conv=>whnf)
     (repeat (refine ⟨by first | rfl | omega,?_⟩;conv=>whnf))
     repeat first | refine W1 ?_ | refine W3 ?_ | ((first | refine W2 hT hM [] ?_ | refine W4 ?_ | refine W5 ?_ | refine W6 ?_ | refine W7 ?_ rfl);conv=>whnf)
     rw [em,if_pos hs];rfl
theorem Tryz.akz (a b:Fr) (h1:I64 a.1) (h2:I64 a.2) (h3:I64 b.1) (h4:I64 b.2):Pure Tryz.prog 56 [.int .u8 43,enQ a,enQ b] [enQ (iC a b).1,.int .i64 (iC a b).2]:=by
 refine Pure.of_wp hT (nt:=_) (c:=_) Tryz.func56 rfl rfl rfl rfl (by kernel_rfl) ?_
 intro w0 ok0 β0
 repeat first | refine W1 ?_ | refine W3 ?_ | ((first | refine W2 hT hM [] ?_ | refine W4 ?_ | refine W5 ?_ | refine W6 ?_ | refine W7 ?_ rfl);conv=>whnf)
 refine .inl ⟨_,Tryz.EK a h1 h2,.inl rfl,?_⟩
 conv=>whnf
 cases ka:okF a with
 | false=>
   conv=>whnf
   repeat first | refine W1 ?_ | refine W3 ?_ | ((first | refine W2 hT hM [] ?_ | refine W4 ?_ | refine W5 ?_ | refine W6 ?_ | refine W7 ?_ rfl);conv=>whnf)
   have:iC a b=((0,0),13):=by unfold iC;rw [ka];rfl
   rw [this];rfl
 | true=>
   conv=>whnf
   refine .inl ⟨_,Tryz.EK b h3 h4,.inl rfl,?_⟩
   conv=>whnf
   cases kb:okF b with
   | false=>
     conv=>whnf
     repeat first | refine W1 ?_ | refine W3 ?_ | ((first | refine W2 hT hM [] ?_ | refine W4 ?_ | refine W5 ?_ | refine W6 ?_ | refine W7 ?_ rfl);conv=>whnf)
     have:iC a b=((0,0),13):=by unfold iC;rw [ka,kb];rfl
     rw [this];rfl
   | true=>
     conv=>whnf
     have e:iC a b=mkF (a.1*b.2+b.1*a.2) (a.2*b.2):=by unfold iC;rw [ka,kb];rfl
     obtain ⟨a1,a2,a3,a4,_⟩:=dA.1 ka
     obtain ⟨b1,b2,b3,b4,_⟩:=dA.1 kb
     have m1:=kX a3 a4 b1 b2
     have m2:=kX b3 b4 a1 a2
     have m3:=kX (x:=a.2) (y:=b.2) (by unfold mst at *;omega) a2 b1 b2
     repeat first | refine W1 ?_ | refine W3 ?_ | ((first | refine W2 hT hM [] ?_ | refine W4 ?_ | refine W5 ?_ | refine W6 ?_ | refine W7 ?_ rfl);conv=>whnf)
     (repeat (refine ⟨by first | rfl | omega,?_⟩;conv=>whnf))
     repeat first | refine W1 ?_ | refine W3 ?_ | ((first | refine W2 hT hM [] ?_ | refine W4 ?_ | refine W5 ?_ | refine W6 ?_ | refine W7 ?_ rfl);conv=>whnf)
     refine .inl ⟨_,Tryz.aeS _ _ ⟨by omega,by omega⟩ ⟨by omega,by omega⟩,.inl rfl,?_⟩
     conv=>whnf
     repeat first | refine W1 ?_ | refine W3 ?_ | ((first | refine W2 hT hM [] ?_ | refine W4 ?_ | refine W5 ?_ | refine W6 ?_ | refine W7 ?_ rfl);conv=>whnf)
     rw [e]
     rfl
theorem Tryz.ahu (n:Int):Pure Tryz.prog 55 [.int .i64 n] [enQ (n,1)]:=by
 refine Pure.of_wp hT (nt:=_) (c:=_) Tryz.func55 rfl rfl rfl rfl (by kernel_rfl) ?_
 intro w0 ok0 β0
 repeat first | refine W1 ?_ | refine W3 ?_ | ((first | refine W2 hT hM [] ?_ | refine W4 ?_ | refine W5 ?_ | refine W6 ?_ | refine W7 ?_ rfl);conv=>whnf)
 (repeat (refine ⟨by first | rfl | omega,?_⟩;conv=>whnf))
 repeat first | refine W1 ?_ | refine W3 ?_ | ((first | refine W2 hT hM [] ?_ | refine W4 ?_ | refine W5 ?_ | refine W6 ?_ | refine W7 ?_ rfl);conv=>whnf)
 rfl
theorem Tryz.aak (l:List Fr) (hl:l.length≤1000000) (hi:∀ f∈l,okI f):Pure Tryz.prog 27 [.list (l.map enQ)] [enQ (sumF (0,1) l).1,.int .i64 (sumF (0,1) l).2]:=by
 refine Pure.of_wp hT (nt:=_) (c:=_) Tryz.func27 rfl rfl rfl rfl (by kernel_rfl) ?_
 intro w0 ok0 β0
 repeat first | refine W1 ?_ | refine W3 ?_ | ((first | refine W2 hT hM [] ?_ | refine W4 ?_ | refine W5 ?_ | refine W6 ?_ | refine W7 ?_ rfl);conv=>whnf)
 refine .inl ⟨_,Tryz.ahu 0,.inl rfl,?_⟩
 conv=>whnf
 repeat first | refine W1 ?_ | refine W3 ?_ | ((first | refine W2 hT hM [] ?_ | refine W4 ?_ | refine W5 ?_ | refine W6 ?_ | refine W7 ?_ rfl);conv=>whnf)
 (repeat (refine ⟨by first | rfl | omega,?_⟩;conv=>whnf))
 repeat first | refine W1 ?_ | refine W3 ?_ | ((first | refine W2 hT hM [] ?_ | refine W4 ?_ | refine W5 ?_ | refine W6 ?_ | refine W7 ?_ rfl);conv=>whnf)
 refine WP.loop (α:=Nat×Fr) (fun x=>⟨[(0,.d (.list (l.map enQ))),(2,.ptr 2 0),(3,.d (.int .i64 0)),(4,.ptr 4 0),(10,.d (.int .i64 l.length)),(11,.d (.int .i64 x.1))],
   [((2,0),some (.cell (.d (.int .i64 0)))),((2,1),some (.cell (.d (.int .i64 0)))),((4,0),some (.cell (.d (.int .i64 x.2.1)))),((4,1),some (.cell (.d (.int .i64 x.2.2))))],[2,4]⟩)
  (fun x=>x.1≤l.length∧okI x.2∧sumF (0,1) l=sumF x.2 (l.drop x.1)) (fun x=>l.length-x.1) (0,(0,1)) [(2,some 2),(4,some 4)] [] ?_ ?_ ?_
 ·((conv=>whnf);repeat (first | exact True.intro | (refine And.intro (by first | rfl | exact ⟨rfl,rfl,rfl⟩ | exact ⟨rfl,rfl,by simp⟩ | exact ⟨rfl,rfl⟩ | exact ⟨rfl,by simp⟩ | (simp;done) | (simp;omega)) ?_;conv=>whnf)))
 ·exact ⟨by simp,Nv (by decide),by simp⟩
 ·rintro ⟨i,s⟩ ⟨hil,hs,hd⟩
  simp only at hil hs hd
  repeat first | refine W1 ?_ | refine W3 ?_ | ((first | refine W2 hT hM [] ?_ | refine W4 ?_ | refine W5 ?_ | refine W6 ?_ | refine W7 ?_ rfl);conv=>whnf)
  (split<;>rename_i hb<;>(try rw [hb])<;>(conv=>whnf))
  ·have hlt:i<l.length:=by simpa using hb
   repeat first | refine W1 ?_ | refine W3 ?_ | ((first | refine W2 hT hM [] ?_ | refine W4 ?_ | refine W5 ?_ | refine W6 ?_ | refine W7 ?_ rfl);conv=>whnf)
   refine ⟨by omega,_,aZ hlt,rfl,?_⟩
   conv=>whnf
   have hf:=hi l[i] (List.getElem_mem hlt)
   refine .inl ⟨_,Tryz.akz s l[i] hs.1 hs.2 hf.1 hf.2,.inl rfl,?_⟩
   conv=>whnf
   repeat first | refine W1 ?_ | refine W3 ?_ | ((first | refine W2 hT hM [] ?_ | refine W4 ?_ | refine W5 ?_ | refine W6 ?_ | refine W7 ?_ rfl);conv=>whnf)
   rw [List.drop_eq_getElem_cons hlt] at hd
   rw [Df] at hd
   (split<;>rename_i hb<;>(try rw [hb])<;>(conv=>whnf))
   ·have he:(iC s l[i]).2≠0:=by simpa using hb
    repeat first | refine W1 ?_ | refine W3 ?_ | ((first | refine W2 hT hM [] ?_ | refine W4 ?_ | refine W5 ?_ | refine W6 ?_ | refine W7 ?_ rfl);conv=>whnf)
    rw [hd,if_pos he];rfl
   ·have he:(iC s l[i]).2=0:=by simpa using hb
    rw [if_neg (by omega)] at hd
    repeat first | refine W1 ?_ | refine W3 ?_ | ((first | refine W2 hT hM [] ?_ | refine W4 ?_ | refine W5 ?_ | refine W6 ?_ | refine W7 ?_ rfl);conv=>whnf)
    refine ⟨by omega,?_⟩
    conv=>whnf
    refine ⟨(i+1,(iC s l[i]).1),[(2,some 2),(4,some 4)],[],?_,⟨by show i+1≤_;omega,Nv (Qu he),hd⟩,by simp;omega⟩
    ((conv=>whnf);repeat (first | exact True.intro | (refine And.intro (by first | rfl | exact ⟨rfl,rfl,rfl⟩ | exact ⟨rfl,rfl,by simp⟩ | exact ⟨rfl,rfl⟩ | exact ⟨rfl,by simp⟩ | (simp;done) | (simp;omega)) ?_;conv=>whnf)))
  ·have hge:i=l.length:=by simp at hb;omega
   subst hge
   repeat first | refine W1 ?_ | refine W3 ?_ | ((first | refine W2 hT hM [] ?_ | refine W4 ?_ | refine W5 ?_ | refine W6 ?_ | refine W7 ?_ rfl);conv=>whnf)
   rw [List.drop_length] at hd
   rw [hd];rfl
end Go.Proofs.YtoikephldpcpgaaGreatDoor
