/- Walks: a belief's probabilities; what a list contains; ascending lists. -/
import Derived.Test.YtepmohahglddnaaGreatDoorBelCAnd
import Derived.Test.YtepmohahglddnaaGreatDoorBRunAOne
import Derived.Test.YtepmohahglddnaaGreatDoorSimDA24And
import Derived.SizedLaws
import Derived.Test.YtepmohahglddnaaGreatDoorBRunFOne
set_option linter.unusedVariables false
set_option linter.unusedSimpArgs false
set_option linter.all false
namespace Go.Proofs.YtepmohahglddnaaGreatDoor
open Go Go.Abs Go.Own
attribute [local irreducible] WP
theorem Tryz.Ce (b:List Wt) (hl:b.length≤1000000):Pure Tryz.prog 17 [.list (b.map enW)] [.list ((b.map (·.2)).map enQ)]:=by
 have h16:(T 29).bytes=16:=rfl
 refine Pure.of_wp hT (nt:=_) (c:=_) Tryz.func17 rfl rfl rfl rfl (by kernel_rfl) ?_
 intro w0 ok0 β0
 repeat first | refine W1 ?_ | refine W3 ?_ | ((first | refine W2 hT hM [] ?_ | refine W4 ?_ | refine W5 ?_ | refine W6 ?_ | refine W7 ?_ rfl);conv=>whnf)
 refine WP.loop (α:=Nat×List D) (fun x=>⟨[(3,aeM 3 2 x.2),(6,.d (.list (b.map enW))),(7,.d (.int .i64 b.length)),(8,.d (.int .i64 x.1))],aeO 3 2 x.2,aeN 3 x.2⟩)
  (fun x=>x.1≤b.length∧x.2=(b.take x.1).map fun w=>enQ w.2) (fun x=>b.length-x.1) (0,[]) [] [] ?_ ?_ ?_
 ·((conv=>whnf);repeat (first | exact True.intro | (refine And.intro (by first | rfl | exact ⟨rfl,rfl,rfl⟩ | exact ⟨rfl,rfl,by simp⟩ | exact ⟨rfl,rfl⟩ | exact ⟨rfl,by simp⟩ | (simp;done) | (simp;omega)) ?_;conv=>whnf)))
 ·simp
 ·rintro ⟨i,s⟩ ⟨hi,hs⟩
  simp only at hi hs
  repeat first | refine W1 ?_ | refine W3 ?_ | ((first | refine W2 hT hM [] ?_ | refine W4 ?_ | refine W5 ?_ | refine W6 ?_ | refine W7 ?_ rfl);conv=>whnf)
  (split<;>rename_i hb<;>(try rw [hb])<;>(conv=>whnf))
  ·have hlt:i<b.length:=by simpa using hb
   clear hb
   have hnx:=Ie (fun w:Wt=>enQ w.2) hlt
   rw [← hs] at hnx
   have hsl:s.length≤1000000:=by rw [hs];simp;omega
   repeat first | refine W1 ?_ | refine W3 ?_ | ((first | refine W2 hT hM [] ?_ | refine W4 ?_ | refine W5 ?_ | refine W6 ?_ | refine W7 ?_ rfl);conv=>whnf)
   refine ⟨by omega,_,eF hlt,rfl,?_⟩
   conv=>whnf
   repeat first | refine W1 ?_ | refine W3 ?_ | ((first | refine W2 hT hM [] ?_ | refine W4 ?_ | refine W5 ?_ | refine W6 ?_ | refine W7 ?_ rfl);conv=>whnf)
   cases s with
   | nil=>
     repeat first | refine W1 ?_ | refine W3 ?_ | ((first | refine W2 hT hM [] ?_ | refine W4 ?_ | refine W5 ?_ | refine W6 ?_ | refine W7 ?_ rfl);conv=>whnf)
     refine ⟨rfl,?_⟩
     conv=>whnf
     refine ⟨_,rfl,Nat.le_refl _,Nat.le_of_ble_eq_true rfl,?_⟩
     conv=>whnf
     repeat first | refine W1 ?_ | refine W3 ?_ | ((first | refine W2 hT hM [] ?_ | refine W4 ?_ | refine W5 ?_ | refine W6 ?_ | refine W7 ?_ rfl);conv=>whnf)
     refine ⟨by omega,?_⟩
     conv=>whnf
     refine ⟨(i+1,[enQ b[i].2]),[(3,some 16)],[],?_,⟨by simp only;omega,hnx.symm⟩,by simp only;omega⟩
     ((conv=>whnf);repeat (first | exact True.intro | (refine And.intro (by first | rfl | exact ⟨rfl,rfl,rfl⟩ | exact ⟨rfl,rfl,by simp⟩ | exact ⟨rfl,rfl⟩ | exact ⟨rfl,by simp⟩ | (simp;done) | (simp;omega)) ?_;conv=>whnf)))
   | cons c u=>
     repeat first | refine W1 ?_ | refine W3 ?_ | ((first | refine W2 hT hM [] ?_ | refine W4 ?_ | refine W5 ?_ | refine W6 ?_ | refine W7 ?_ rfl);conv=>whnf)
     refine ⟨rfl,?_⟩
     conv=>whnf
     refine ⟨c::u,by rw [List.drop_zero,List.take_of_length_le (Nat.le_refl _)],by simp,?_⟩
     conv=>whnf
     refine ⟨_,rfl,Nat.le_refl _,?_,?_⟩
     ·rw [h16]
      have h1:∀ x:D,(List.take [x].length (List.drop 0 [x])).length=1:=fun _=>rfl
      simp only [h1];omega
     conv=>whnf
     repeat first | refine W1 ?_ | refine W3 ?_ | ((first | refine W2 hT hM [] ?_ | refine W4 ?_ | refine W5 ?_ | refine W6 ?_ | refine W7 ?_ rfl);conv=>whnf)
     refine ⟨by omega,?_⟩
     conv=>whnf
     refine ⟨(i+1,(c::u)++[enQ b[i].2]),[(3,some 16)],[],?_,⟨by simp only;omega,hnx.symm⟩,by simp only;omega⟩
     ((conv=>whnf);repeat (first | exact True.intro | (refine And.intro (by first | rfl | exact ⟨rfl,rfl,rfl⟩ | exact ⟨rfl,rfl,by simp⟩ | exact ⟨rfl,rfl⟩ | exact ⟨rfl,by simp⟩ | (simp;done) | (simp;omega)) ?_;conv=>whnf)))
  ·have hii:i=b.length:=by simp at hb;omega
   subst hii
   clear hb
   rw [List.take_length] at hs
   have hfin:((b.map (·.2)).map enQ)=s:=by rw [hs,List.map_map];rfl
   rw [hfin]
   cases s with
   | nil=>repeat first | refine W1 ?_ | refine W3 ?_ | ((first | refine W2 hT hM [] ?_ | refine W4 ?_ | refine W5 ?_ | refine W6 ?_ | refine W7 ?_ rfl);conv=>whnf)
   | cons c u=>
     repeat first | refine W1 ?_ | refine W3 ?_ | ((first | refine W2 hT hM [] ?_ | refine W4 ?_ | refine W5 ?_ | refine W6 ?_ | refine W7 ?_ rfl);conv=>whnf)
     refine ⟨c::u,by rw [List.drop_zero,List.take_of_length_le (Nat.le_refl _)],by simp,?_⟩
     conv=>whnf
def FW (i:Int):List Int→Int→Int
 | [],_=>-1
 | y::l,x=>if x=y then i else FW (i+1) l x
theorem Jf:∀ {l:List Int} {x i:Int},0≤i→(0≤FW i l x↔x∈l)
 | [],x,i,h=>by simp [FW]
 | y::l,x,i,h=>by
   unfold FW
   by_cases e:x=y
   ·rw [if_pos e];simp [h,e]
   ·rw [if_neg e,Jf (by omega)];simp [e]
theorem Tryz.ae2 (l:List Int) (x:Int) (hl:l.length≤1000000):Pure Tryz.prog 48 [.list (l.map enI),.int .i64 x] [.int .i64 (FW 0 l x)]:=by
 refine Pure.of_wp hT (nt:=_) (c:=_) Tryz.func48 rfl rfl rfl rfl (by kernel_rfl) ?_
 intro w0 ok0 β0
 repeat first | refine W1 ?_ | refine W3 ?_ | ((first | refine W2 hT hM [] ?_ | refine W4 ?_ | refine W5 ?_ | refine W6 ?_ | refine W7 ?_ rfl);conv=>whnf)
 refine WP.loop (α:=Nat) (fun i=>⟨[(0,.d (.list (l.map enI))),(1,.d (.int .i64 x)),(7,.d (.int .i64 l.length)),(8,.d (.int .i64 i))],[],[]⟩)
  (fun i=>i≤l.length∧FW 0 l x=FW i (l.drop i) x) (fun i=>l.length-i) 0 [] [] ?_ ?_ ?_
 ·((conv=>whnf);repeat (first | exact True.intro | (refine And.intro (by first | rfl | exact ⟨rfl,rfl,rfl⟩ | exact ⟨rfl,rfl,by simp⟩ | exact ⟨rfl,rfl⟩ | exact ⟨rfl,by simp⟩ | (simp;done) | (simp;omega)) ?_;conv=>whnf)))
 ·simp
 ·rintro i ⟨hi,hx⟩
  repeat first | refine W1 ?_ | refine W3 ?_ | ((first | refine W2 hT hM [] ?_ | refine W4 ?_ | refine W5 ?_ | refine W6 ?_ | refine W7 ?_ rfl);conv=>whnf)
  (split<;>rename_i hb<;>(try rw [hb])<;>(conv=>whnf))
  ·have hlt:i<l.length:=by simpa using hb
   clear hb
   repeat first | refine W1 ?_ | refine W3 ?_ | ((first | refine W2 hT hM [] ?_ | refine W4 ?_ | refine W5 ?_ | refine W6 ?_ | refine W7 ?_ rfl);conv=>whnf)
   refine ⟨by omega,_,eF hlt,rfl,?_⟩
   conv=>whnf
   repeat first | refine W1 ?_ | refine W3 ?_ | ((first | refine W2 hT hM [] ?_ | refine W4 ?_ | refine W5 ?_ | refine W6 ?_ | refine W7 ?_ rfl);conv=>whnf)
   rw [oU hlt] at hx
   (split<;>rename_i hb<;>(try rw [hb])<;>(conv=>whnf))
   ·have he:x=l[i]:=by simpa using hb
    repeat first | refine W1 ?_ | refine W3 ?_ | ((first | refine W2 hT hM [] ?_ | refine W4 ?_ | refine W5 ?_ | refine W6 ?_ | refine W7 ?_ rfl);conv=>whnf)
    rw [hx,FW,if_pos he]
   ·have he:x≠l[i]:=by simpa using hb
    repeat first | refine W1 ?_ | refine W3 ?_ | ((first | refine W2 hT hM [] ?_ | refine W4 ?_ | refine W5 ?_ | refine W6 ?_ | refine W7 ?_ rfl);conv=>whnf)
    refine ⟨by omega,?_⟩
    conv=>whnf
    refine ⟨i+1,[],[],?_,⟨by omega,?_⟩,by omega⟩
    ·((conv=>whnf);repeat (first | exact True.intro | (refine And.intro (by first | rfl | exact ⟨rfl,rfl,rfl⟩ | exact ⟨rfl,rfl,by simp⟩ | exact ⟨rfl,rfl⟩ | exact ⟨rfl,by simp⟩ | (simp;done) | (simp;omega)) ?_;conv=>whnf)))
    ·rw [hx,FW,if_neg he];rfl
  ·have hii:i=l.length:=by simp at hb;omega
   subst hii
   rw [List.drop_length] at hx
   repeat first | refine W1 ?_ | refine W3 ?_ | ((first | refine W2 hT hM [] ?_ | refine W4 ?_ | refine W5 ?_ | refine W6 ?_ | refine W7 ?_ rfl);conv=>whnf)
   rw [hx];rfl
theorem Tryz.Eo (l:List Int) (x:Int) (hl:l.length≤1000000):Pure Tryz.prog 29 [.list (l.map enI),.int .i64 x] [.bool (l.contains x)]:=by
 refine Pure.of_wp hT (nt:=_) (c:=_) Tryz.func29 rfl rfl rfl rfl (by kernel_rfl) ?_
 intro w0 ok0 β0
 repeat first | refine W1 ?_ | refine W3 ?_ | ((first | refine W2 hT hM [] ?_ | refine W4 ?_ | refine W5 ?_ | refine W6 ?_ | refine W7 ?_ rfl);conv=>whnf)
 refine .inl ⟨_,Tryz.ae2 l x hl,.inl rfl,?_⟩
 conv=>whnf
 repeat first | refine W1 ?_ | refine W3 ?_ | ((first | refine W2 hT hM [] ?_ | refine W4 ?_ | refine W5 ?_ | refine W6 ?_ | refine W7 ?_ rfl);conv=>whnf)
 congr 2
 rw [Bool.eq_iff_iff,List.contains_iff_mem,← Jf (i:=0) (by decide)]
 simp
def EG (l:List Int) (i:Nat):Prop:=(∀ j (h:j<l.length),j<i→0≤l[j])∧∀ j (h:j+1<l.length),j+1<i→l[j]<l[j+1]
theorem EG.next {l:List Int} {i:Nat} (h:EG l i) (hi:i<l.length) (h0:0≤l[i]) (h1:∀ h1:1≤i,l[i-1]'(by omega)<l[i]):EG l (i+1):=by
 refine ⟨fun j hj hji=>?_,fun j hj hji=>?_⟩
 ·by_cases e:j=i
  ·subst e;exact h0
  ·exact h.1 j hj (by omega)
 ·by_cases e:j+1=i
  ·subst e;exact h1 (by omega)
  ·exact h.2 j hj (by omega)
theorem EG.all {l:List Int} (h:EG l l.length):MO l:=by
 refine ⟨fun n hn=>?_,show l.Pairwise (·<·) from lT (R:=fun a b:Int=>a<b) (fun a b c h k=>Int.lt_trans h k) fun i hi=>h.2 i hi hi⟩
 obtain ⟨j,hj,rfl⟩:=List.getElem_of_mem hn
 exact h.1 j hj hj
noncomputable def Qr (l:List Int):Bool:=@decide (MO l) (Classical.propDecidable _)
theorem wJ {l:List Int}:Qr l=true↔MO l:=@decide_eq_true_iff _ (Classical.propDecidable _)
theorem Qq {l:List Int} (h:¬ MO l):Qr l=false:=@decide_eq_false _ (Classical.propDecidable _) h
theorem ZX {l:List Int} {i:Nat} (h1:1≤i) (h:i<l.length) (hn:l[i]≤l[i-1]):¬ MO l:=fun ha=>by
 have:=List.pairwise_iff_getElem.1 ha.2 (i-1) i (by omega) h (by omega)
 omega
theorem Tryz.MC (l:List Int) (hl:l.length≤1000000):Pure Tryz.prog 13 [.list (l.map enI)] [.bool (Qr l)]:=by
 refine Pure.of_wp hT (nt:=_) (c:=_) Tryz.func13 rfl rfl rfl rfl (by kernel_rfl) ?_
 intro w0 ok0 β0
 repeat first | refine W1 ?_ | refine W3 ?_ | ((first | refine W2 hT hM [] ?_ | refine W4 ?_ | refine W5 ?_ | refine W6 ?_ | refine W7 ?_ rfl);conv=>whnf)
 refine WP.loop (α:=Nat) (fun i=>⟨[(0,.d (.list (l.map enI))),(5,.d (.list (l.map enI))),(6,.d (.int .i64 l.length)),(7,.d (.int .i64 i))],[],[]⟩)
  (fun i=>i≤l.length∧EG l i) (fun i=>l.length-i) 0 [] [] ?_ ?_ ?_
 ·((conv=>whnf);repeat (first | exact True.intro | (refine And.intro (by first | rfl | exact ⟨rfl,rfl,rfl⟩ | exact ⟨rfl,rfl,by simp⟩ | exact ⟨rfl,rfl⟩ | exact ⟨rfl,by simp⟩ | (simp;done) | (simp;omega)) ?_;conv=>whnf)))
 ·exact ⟨Nat.zero_le _,fun j h hj=>by omega,fun j h hj=>by omega⟩
 ·rintro i ⟨hi,ha⟩
  repeat first | refine W1 ?_ | refine W3 ?_ | ((first | refine W2 hT hM [] ?_ | refine W4 ?_ | refine W5 ?_ | refine W6 ?_ | refine W7 ?_ rfl);conv=>whnf)
  (split<;>rename_i hb<;>(try rw [hb])<;>(conv=>whnf))
  ·have hlt:i<l.length:=by simpa using hb
   clear hb
   repeat first | refine W1 ?_ | refine W3 ?_ | ((first | refine W2 hT hM [] ?_ | refine W4 ?_ | refine W5 ?_ | refine W6 ?_ | refine W7 ?_ rfl);conv=>whnf)
   refine ⟨by omega,_,eF hlt,rfl,?_⟩
   conv=>whnf
   repeat first | refine W1 ?_ | refine W3 ?_ | ((first | refine W2 hT hM [] ?_ | refine W4 ?_ | refine W5 ?_ | refine W6 ?_ | refine W7 ?_ rfl);conv=>whnf)
   (split<;>rename_i hb<;>(try rw [hb])<;>(conv=>whnf))
   ·have hn:l[i]<0:=by simpa using hb
    repeat first | refine W1 ?_ | refine W3 ?_ | ((first | refine W2 hT hM [] ?_ | refine W4 ?_ | refine W5 ?_ | refine W6 ?_ | refine W7 ?_ rfl);conv=>whnf)
    rw [Qq fun h=>by have:=h.1 _ (List.getElem_mem hlt);omega]
   ·have h0:0≤l[i]:=by simp at hb;omega
    clear hb
    (split<;>rename_i hb<;>(try rw [hb])<;>(conv=>whnf))
    ·have hi0:1≤i:=by simp at hb;omega
     clear hb
     refine ⟨by omega,?_⟩
     conv=>whnf
     refine ⟨by omega,_,Oz hi0 (by omega),rfl,?_⟩
     conv=>whnf
     repeat first | refine W1 ?_ | refine W3 ?_ | ((first | refine W2 hT hM [] ?_ | refine W4 ?_ | refine W5 ?_ | refine W6 ?_ | refine W7 ?_ rfl);conv=>whnf)
     (split<;>rename_i hb<;>(try rw [hb])<;>(conv=>whnf))
     ·have hle:l[i]≤l[i-1]:=by simpa using hb
      repeat first | refine W1 ?_ | refine W3 ?_ | ((first | refine W2 hT hM [] ?_ | refine W4 ?_ | refine W5 ?_ | refine W6 ?_ | refine W7 ?_ rfl);conv=>whnf)
      rw [Qq (ZX hi0 hlt hle)]
     ·have hgt:l[i-1]<l[i]:=by simp at hb;omega
      repeat first | refine W1 ?_ | refine W3 ?_ | ((first | refine W2 hT hM [] ?_ | refine W4 ?_ | refine W5 ?_ | refine W6 ?_ | refine W7 ?_ rfl);conv=>whnf)
      refine ⟨by omega,?_⟩
      conv=>whnf
      refine ⟨i+1,[],[],?_,⟨by omega,ha.next hlt h0 fun _=>hgt⟩,by omega⟩
      ((conv=>whnf);repeat (first | exact True.intro | (refine And.intro (by first | rfl | exact ⟨rfl,rfl,rfl⟩ | exact ⟨rfl,rfl,by simp⟩ | exact ⟨rfl,rfl⟩ | exact ⟨rfl,by simp⟩ | (simp;done) | (simp;omega)) ?_;conv=>whnf)))
    ·have hi0:¬ 1≤i:=by simp at hb;omega
     clear hb
     repeat first | refine W1 ?_ | refine W3 ?_ | ((first | refine W2 hT hM [] ?_ | refine W4 ?_ | refine W5 ?_ | refine W6 ?_ | refine W7 ?_ rfl);conv=>whnf)
     refine ⟨by omega,?_⟩
     conv=>whnf
     refine ⟨i+1,[],[],?_,⟨by omega,ha.next hlt h0 fun h=>absurd h hi0⟩,by omega⟩
     ((conv=>whnf);repeat (first | exact True.intro | (refine And.intro (by first | rfl | exact ⟨rfl,rfl,rfl⟩ | exact ⟨rfl,rfl,by simp⟩ | exact ⟨rfl,rfl⟩ | exact ⟨rfl,by simp⟩ | (simp;done) | (simp;omega)) ?_;conv=>whnf)))
  ·have hii:i=l.length:=by simp at hb;omega
   subst hii
   repeat first | refine W1 ?_ | refine W3 ?_ | ((first | refine W2 hT hM [] ?_ | refine W4 ?_ | refine W5 ?_ | refine W6 ?_ | refine W7 ?_ rfl);conv=>whnf)
   rw [wJ.2 ha.all]
end Go.Proofs.YtepmohahglddnaaGreatDoor
namespace Go.Proofs.YtepmohahglddnaaGreatDoor
open Go Go.Abs Go.Own
attribute [local irreducible] WP
theorem Ul {b:List Wt} {i:Nat} (h:¬ Xh b i):vB b=false:=aj3 fun hv=>h (hv.1 i)
theorem eqO (f:Fr):aT [.int .i64 f.1,.int .i64 f.2] [.int .i64 1,.int .i64 1]=decide (f=(1,1)):=eqQ f (1,1)
theorem Tryz.JZ (b:List Wt) (hl:b.length≤1000000) (hr:∀ w∈b,w.1.length≤1000000∧okI w.2):Pure Tryz.prog 6 [.list (b.map enW)] [.bool (vB b)]:=by
 refine Pure.of_wp hT (nt:=_) (c:=_) Tryz.func6 rfl rfl rfl rfl (by kernel_rfl) ?_
 intro w0 ok0 β0
 repeat first | refine W1 ?_ | refine W3 ?_ | ((first | refine W2 hT hM [] ?_ | refine W4 ?_ | refine W5 ?_ | refine W6 ?_ | refine W7 ?_ rfl);conv=>whnf)
 refine WP.loop (α:=Nat) (fun i=>⟨[(0,.d (.list (b.map enW))),(7,.d (.list (b.map enW))),(8,.d (.int .i64 b.length)),(9,.d (.int .i64 i))],[],[]⟩)
  (fun i=>i≤b.length∧∀ j,j<i→Xh b j) (fun i=>b.length-i) 0 [] [] ?_ ?_ ?_
 ·((conv=>whnf);repeat (first | exact True.intro | (refine And.intro (by first | rfl | exact ⟨rfl,rfl,rfl⟩ | exact ⟨rfl,rfl,by simp⟩ | exact ⟨rfl,rfl⟩ | exact ⟨rfl,by simp⟩ | (simp;done) | (simp;omega)) ?_;conv=>whnf)))
 ·exact ⟨Nat.zero_le _,fun j hj=>by omega⟩
 ·rintro i ⟨hi,hok⟩
  repeat first | refine W1 ?_ | refine W3 ?_ | ((first | refine W2 hT hM [] ?_ | refine W4 ?_ | refine W5 ?_ | refine W6 ?_ | refine W7 ?_ rfl);conv=>whnf)
  (split<;>rename_i hb<;>(try rw [hb])<;>(conv=>whnf))
  ·have hlt:i<b.length:=by simpa using hb
   clear hb
   have hri:=hr _ (List.getElem_mem hlt)
   repeat first | refine W1 ?_ | refine W3 ?_ | ((first | refine W2 hT hM [] ?_ | refine W4 ?_ | refine W5 ?_ | refine W6 ?_ | refine W7 ?_ rfl);conv=>whnf)
   refine ⟨by omega,_,eF hlt,rfl,?_⟩
   conv=>whnf
   repeat first | refine W1 ?_ | refine W3 ?_ | ((first | refine W2 hT hM [] ?_ | refine W4 ?_ | refine W5 ?_ | refine W6 ?_ | refine W7 ?_ rfl);conv=>whnf)
   refine .inl ⟨_,Tryz.MC b[i].1 hri.1,.inl rfl,?_⟩
   conv=>whnf
   have nope:(Xh b i→False)→vB b=false:=fun h=>Ul h
   have valid:=Tryz.valid b[i].2 hri.2.1 hri.2.2
   cases ha:Qr b[i].1 with
   | false=>
     conv=>whnf
     repeat first | refine W1 ?_ | refine W3 ?_ | ((first | refine W2 hT hM [] ?_ | refine W4 ?_ | refine W5 ?_ | refine W6 ?_ | refine W7 ?_ rfl);conv=>whnf)
     rw [nope fun h=>by rw [wJ.2 (h hlt).1] at ha;cases ha]
   | true=>
     have hasc:=wJ.1 ha
     conv=>whnf
     repeat first | refine W1 ?_ | refine W3 ?_ | ((first | refine W2 hT hM [] ?_ | refine W4 ?_ | refine W5 ?_ | refine W6 ?_ | refine W7 ?_ rfl);conv=>whnf)
     (split<;>rename_i hb<;>(try rw [hb])<;>(conv=>whnf))
     ·have hi0:1≤i:=by simp at hb;omega
      clear hb
      refine ⟨by omega,?_⟩
      conv=>whnf
      refine ⟨by omega,_,Oz hi0 (by omega),rfl,?_⟩
      conv=>whnf
      have hrp:=hr _ (List.getElem_mem (show i-1<b.length by omega))
      refine .inl ⟨_,Tryz.y8 b[i-1].1 b[i].1 hrp.1 hri.1,.inl rfl,?_⟩
      conv=>whnf
      repeat first | refine W1 ?_ | refine W3 ?_ | ((first | refine W2 hT hM [] ?_ | refine W4 ?_ | refine W5 ?_ | refine W6 ?_ | refine W7 ?_ rfl);conv=>whnf)
      (split<;>rename_i hb<;>(try rw [hb])<;>(conv=>whnf))
      ·have hc:0≤cmpL b[i-1].1 b[i].1:=by simpa using hb
       repeat first | refine W1 ?_ | refine W3 ?_ | ((first | refine W2 hT hM [] ?_ | refine W4 ?_ | refine W5 ?_ | refine W6 ?_ | refine W7 ?_ rfl);conv=>whnf)
       rw [nope fun h=>by have:=(h hlt).2.1 (i-1) (by omega);omega]
      ·have hc:cmpL b[i-1].1 b[i].1<0:=by simp at hb;omega
       clear hb
       refine .inl ⟨_,valid,.inl rfl,?_⟩
       conv=>whnf
       cases hv:okF b[i].2 with
       | false=>
         conv=>whnf
         repeat first | refine W1 ?_ | refine W3 ?_ | ((first | refine W2 hT hM [] ?_ | refine W4 ?_ | refine W5 ?_ | refine W6 ?_ | refine W7 ?_ rfl);conv=>whnf)
         rw [nope fun h=>by rw [(h hlt).2.2.1] at hv;cases hv]
       | true=>
         conv=>whnf
         repeat first | refine W1 ?_ | refine W3 ?_ | ((first | refine W2 hT hM [] ?_ | refine W4 ?_ | refine W5 ?_ | refine W6 ?_ | refine W7 ?_ rfl);conv=>whnf)
         (split<;>rename_i hb<;>(try rw [hb])<;>(conv=>whnf))
         ·have hn:b[i].2.1<1:=by simpa using hb
          repeat first | refine W1 ?_ | refine W3 ?_ | ((first | refine W2 hT hM [] ?_ | refine W4 ?_ | refine W5 ?_ | refine W6 ?_ | refine W7 ?_ rfl);conv=>whnf)
          rw [nope fun h=>by have:=(h hlt).2.2.2;omega]
         ·have hn:1≤b[i].2.1:=by simp at hb;omega
          repeat first | refine W1 ?_ | refine W3 ?_ | ((first | refine W2 hT hM [] ?_ | refine W4 ?_ | refine W5 ?_ | refine W6 ?_ | refine W7 ?_ rfl);conv=>whnf)
          refine ⟨by omega,?_⟩
          conv=>whnf
          refine ⟨i+1,[],[],?_,⟨by omega,fun j hj=>?_⟩,by omega⟩
          ·((conv=>whnf);repeat (first | exact True.intro | (refine And.intro (by first | rfl | exact ⟨rfl,rfl,rfl⟩ | exact ⟨rfl,rfl,by simp⟩ | exact ⟨rfl,rfl⟩ | exact ⟨rfl,by simp⟩ | (simp;done) | (simp;omega)) ?_;conv=>whnf)))
          ·by_cases e:j=i
           ·subst e;exact fun h=>⟨hasc,fun k hk=>by obtain rfl:k=j-1:=by omega
                                                    exact hc,hv,hn⟩
           ·exact hok j (by omega)
     ·have hi0:i=0:=by simp at hb;omega
      clear hb
      refine .inl ⟨_,valid,.inl rfl,?_⟩
      conv=>whnf
      cases hv:okF b[i].2 with
      | false=>
        conv=>whnf
        repeat first | refine W1 ?_ | refine W3 ?_ | ((first | refine W2 hT hM [] ?_ | refine W4 ?_ | refine W5 ?_ | refine W6 ?_ | refine W7 ?_ rfl);conv=>whnf)
        rw [nope fun h=>by rw [(h hlt).2.2.1] at hv;cases hv]
      | true=>
        conv=>whnf
        repeat first | refine W1 ?_ | refine W3 ?_ | ((first | refine W2 hT hM [] ?_ | refine W4 ?_ | refine W5 ?_ | refine W6 ?_ | refine W7 ?_ rfl);conv=>whnf)
        (split<;>rename_i hb<;>(try rw [hb])<;>(conv=>whnf))
        ·have hn:b[i].2.1<1:=by simpa using hb
         repeat first | refine W1 ?_ | refine W3 ?_ | ((first | refine W2 hT hM [] ?_ | refine W4 ?_ | refine W5 ?_ | refine W6 ?_ | refine W7 ?_ rfl);conv=>whnf)
         rw [nope fun h=>by have:=(h hlt).2.2.2;omega]
        ·have hn:1≤b[i].2.1:=by simp at hb;omega
         repeat first | refine W1 ?_ | refine W3 ?_ | ((first | refine W2 hT hM [] ?_ | refine W4 ?_ | refine W5 ?_ | refine W6 ?_ | refine W7 ?_ rfl);conv=>whnf)
         refine ⟨by omega,?_⟩
         conv=>whnf
         refine ⟨i+1,[],[],?_,⟨by omega,fun j hj=>?_⟩,by omega⟩
         ·((conv=>whnf);repeat (first | exact True.intro | (refine And.intro (by first | rfl | exact ⟨rfl,rfl,rfl⟩ | exact ⟨rfl,rfl,by simp⟩ | exact ⟨rfl,rfl⟩ | exact ⟨rfl,by simp⟩ | (simp;done) | (simp;omega)) ?_;conv=>whnf)))
         ·by_cases e:j=i
          ·subst e;exact fun h=>⟨hasc,fun k hk=>by omega,hv,hn⟩
          ·exact hok j (by omega)
  ·have hii:i=b.length:=by simp at hb;omega
   subst hii
   clear hb
   have hall:∀ i,Xh b i:=fun i=>by
    by_cases h:i<b.length
    ·exact hok i h
    ·exact fun h'=>absurd h' h
   have hlp:(b.map (·.2)).length≤1000000:=by simpa using hl
   have hip:∀ f∈b.map (·.2),okI f:=fun f hf=>by obtain ⟨w,hw,rfl⟩:=List.mem_map.1 hf;exact (hr w hw).2
   repeat first | refine W1 ?_ | refine W3 ?_ | ((first | refine W2 hT hM [] ?_ | refine W4 ?_ | refine W5 ?_ | refine W6 ?_ | refine W7 ?_ rfl);conv=>whnf)
   refine .inl ⟨_,Tryz.Ce b hl,.inl rfl,?_⟩
   conv=>whnf
   refine .inl ⟨_,Tryz.sum (b.map (·.2)) hlp hip,.inl rfl,?_⟩
   conv=>whnf
   repeat first | refine W1 ?_ | refine W3 ?_ | ((first | refine W2 hT hM [] ?_ | refine W4 ?_ | refine W5 ?_ | refine W6 ?_ | refine W7 ?_ rfl);conv=>whnf)
   have hvb:∀ p:Bool,(p=true↔b≠[]∧sumF (0,1) (b.map (·.2))=((1,1),0))→vB b=p:=fun p hp=>by
    rw [Bool.eq_iff_iff,EI,hp]
    exact ⟨fun h=>⟨h.2.1,h.2.2⟩,fun h=>⟨hall,h.1,h.2⟩⟩
   have hne:b≠[]↔0<b.length:=by rw [List.length_pos_iff]
   (split<;>rename_i hb<;>(try rw [hb])<;>(conv=>whnf))
   ·have h1:0<b.length:=by simpa using hb
    clear hb
    (split<;>rename_i hb<;>(try rw [hb])<;>(conv=>whnf))
    ·have h2:(sumF (0,1) (b.map (·.2))).2=0:=by simpa using hb
     repeat first | refine W1 ?_ | refine W3 ?_ | ((first | refine W2 hT hM [] ?_ | refine W4 ?_ | refine W5 ?_ | refine W6 ?_ | refine W7 ?_ rfl);conv=>whnf)
     rw [eqO]
     rw [hvb (decide ((sumF (0,1) (b.map (·.2))).1=(1,1))) (by
      rw [decide_eq_true_iff,hne]
      constructor
      ·intro h;exact ⟨h1,Prod.ext h h2⟩
      ·intro h;rw [h.2])]
    ·have h2:(sumF (0,1) (b.map (·.2))).2≠0:=by simpa using hb
     repeat first | refine W1 ?_ | refine W3 ?_ | ((first | refine W2 hT hM [] ?_ | refine W4 ?_ | refine W5 ?_ | refine W6 ?_ | refine W7 ?_ rfl);conv=>whnf)
     rw [hvb false (by simp;intro _ h;rw [h] at h2;exact absurd rfl h2)]
   ·have h1:b=[]:=by simp at hb;exact hb
    repeat first | refine W1 ?_ | refine W3 ?_ | ((first | refine W2 hT hM [] ?_ | refine W4 ?_ | refine W5 ?_ | refine W6 ?_ | refine W7 ?_ rfl);conv=>whnf)
    rw [hvb false (by simp [h1])]
end Go.Proofs.YtepmohahglddnaaGreatDoor
namespace Go.Proofs.YtepmohahglddnaaGreatDoor
open Go Go.Abs Go.Own
attribute [local irreducible] WP
def mO (base:Int) (b:List Wt):List Wt:=b.filter fun w=>w.1.contains base
theorem Df {base:Int} {b:List Wt} {i:Nat} (h:i<b.length):(mO base (b.take (i+1))).map (fun w=>enQ w.2)=(mO base (b.take i)).map (fun w=>enQ w.2)++(if b[i].1.contains base then [enQ b[i].2] else []):=by
 unfold mO
 rw [List.take_succ_eq_append_getElem h,List.filter_append,List.map_append]
 congr 1
 cases hc:b[i].1.contains base
 ·have h0:¬ (fun w:Wt=>w.1.contains base) b[i]=true:=by simp only [hc];simp
  rw [List.filter_cons_of_neg (p:=fun w:Wt=>w.1.contains base) h0];rfl
 ·have h0:(fun w:Wt=>w.1.contains base) b[i]=true:=hc
  rw [List.filter_cons_of_pos (p:=fun w:Wt=>w.1.contains base) h0];rfl
theorem EO (base:Int) (b:List Wt):(mO base b).length≤b.length:=List.length_filter_le _ _
theorem Tryz.holds (b:List Wt) (base:Int) (hl:b.length≤1000000) (hr:∀ w∈b,w.1.length≤1000000∧okI w.2) :
  Pure Tryz.prog 8 [.list (b.map enW),.int .i64 base] [enQ (holdsB b base).1,.int .i64 (holdsB b base).2]:=by
 have h16:(T 29).bytes=16:=rfl
 refine Pure.of_wp hT (nt:=_) (c:=_) Tryz.func8 rfl rfl rfl rfl (by kernel_rfl) ?_
 intro w0 ok0 β0
 repeat first | refine W1 ?_ | refine W3 ?_ | ((first | refine W2 hT hM [] ?_ | refine W4 ?_ | refine W5 ?_ | refine W6 ?_ | refine W7 ?_ rfl);conv=>whnf)
 refine .inl ⟨_,Tryz.JZ b hl hr,.inl rfl,?_⟩
 conv=>whnf
 cases hv:vB b with
 | false=>
   conv=>whnf
   repeat first | refine W1 ?_ | refine W3 ?_ | ((first | refine W2 hT hM [] ?_ | refine W4 ?_ | refine W5 ?_ | refine W6 ?_ | refine W7 ?_ rfl);conv=>whnf)
   unfold holdsB;rw [hv];rfl
 | true=>
   conv=>whnf
   repeat first | refine W1 ?_ | refine W3 ?_ | ((first | refine W2 hT hM [] ?_ | refine W4 ?_ | refine W5 ?_ | refine W6 ?_ | refine W7 ?_ rfl);conv=>whnf)
   refine WP.loop (α:=Nat×List D) (fun x=>⟨[(0,.d (.list (b.map enW))),(1,.d (.int .i64 base)),(4,.ptr 4 0),(5,.d (.int .i64 0)),(6,aeM 6 2 x.2),(13,.d (.list (b.map enW))),(14,.d (.int .i64 b.length)),(15,.d (.int .i64 x.1))],
     ((4,0),some (.cell (.d (.int .i64 0))))::((4,1),some (.cell (.d (.int .i64 0))))::aeO 6 2 x.2,4::aeN 6 x.2⟩)
    (fun x=>x.1≤b.length∧x.2=(mO base (b.take x.1)).map fun w=>enQ w.2) (fun x=>b.length-x.1) (0,[]) [(4,some 4)] [] ?_ ?_ ?_
   ·((conv=>whnf);repeat (first | exact True.intro | (refine And.intro (by first | rfl | exact ⟨rfl,rfl,rfl⟩ | exact ⟨rfl,rfl,by simp⟩ | exact ⟨rfl,rfl⟩ | exact ⟨rfl,by simp⟩ | (simp;done) | (simp;omega)) ?_;conv=>whnf)))
   ·simp [mO]
   ·rintro ⟨i,s⟩ ⟨hi,hs⟩
    simp only at hi hs
    repeat first | refine W1 ?_ | refine W3 ?_ | ((first | refine W2 hT hM [] ?_ | refine W4 ?_ | refine W5 ?_ | refine W6 ?_ | refine W7 ?_ rfl);conv=>whnf)
    (split<;>rename_i hb<;>(try rw [hb])<;>(conv=>whnf))
    ·have hlt:i<b.length:=by simpa using hb
     clear hb
     have hnx:=Df (base:=base) hlt
     rw [← hs] at hnx
     have hri:=hr _ (List.getElem_mem hlt)
     have hsl:s.length≤1000000:=by rw [hs,List.length_map];exact Nat.le_trans (EO _ _) (by simp;omega)
     cases s with
     | nil=>
       repeat first | refine W1 ?_ | refine W3 ?_ | ((first | refine W2 hT hM [] ?_ | refine W4 ?_ | refine W5 ?_ | refine W6 ?_ | refine W7 ?_ rfl);conv=>whnf)
       refine ⟨by omega,_,eF hlt,rfl,?_⟩
       conv=>whnf
       repeat first | refine W1 ?_ | refine W3 ?_ | ((first | refine W2 hT hM [] ?_ | refine W4 ?_ | refine W5 ?_ | refine W6 ?_ | refine W7 ?_ rfl);conv=>whnf)
       refine .inl ⟨_,Tryz.Eo b[i].1 base hri.1,.inl rfl,?_⟩
       conv=>whnf
       cases hc:b[i].1.contains base with
       | true=>
         rw [hc,if_pos rfl] at hnx
         conv=>whnf
         repeat first | refine W1 ?_ | refine W3 ?_ | ((first | refine W2 hT hM [] ?_ | refine W4 ?_ | refine W5 ?_ | refine W6 ?_ | refine W7 ?_ rfl);conv=>whnf)
         refine ⟨rfl,?_⟩
         conv=>whnf
         refine ⟨_,rfl,Nat.le_refl _,Nat.le_of_ble_eq_true rfl,?_⟩
         conv=>whnf
         repeat first | refine W1 ?_ | refine W3 ?_ | ((first | refine W2 hT hM [] ?_ | refine W4 ?_ | refine W5 ?_ | refine W6 ?_ | refine W7 ?_ rfl);conv=>whnf)
         refine ⟨by simp only;omega,?_⟩
         conv=>whnf
         refine ⟨(i+1,[enQ b[i].2]),[(4,some 4),(6,some 27)],[],?_,⟨by simp only;omega,hnx.symm⟩,by simp only;omega⟩
         ((conv=>whnf);repeat (first | exact True.intro | (refine And.intro (by first | rfl | exact ⟨rfl,rfl,rfl⟩ | exact ⟨rfl,rfl,by simp⟩ | exact ⟨rfl,rfl⟩ | exact ⟨rfl,by simp⟩ | (simp;done) | (simp;omega)) ?_;conv=>whnf)))
       | false=>
         rw [hc,if_neg (by simp),List.append_nil] at hnx
         conv=>whnf
         repeat first | refine W1 ?_ | refine W3 ?_ | ((first | refine W2 hT hM [] ?_ | refine W4 ?_ | refine W5 ?_ | refine W6 ?_ | refine W7 ?_ rfl);conv=>whnf)
         refine ⟨by simp only;omega,?_⟩
         conv=>whnf
         refine ⟨(i+1,[]),[(4,some 4)],[],?_,⟨by simp only;omega,hnx.symm⟩,by simp only;omega⟩
         ((conv=>whnf);repeat (first | exact True.intro | (refine And.intro (by first | rfl | exact ⟨rfl,rfl,rfl⟩ | exact ⟨rfl,rfl,by simp⟩ | exact ⟨rfl,rfl⟩ | exact ⟨rfl,by simp⟩ | (simp;done) | (simp;omega)) ?_;conv=>whnf)))
     | cons c u=>
       repeat first | refine W1 ?_ | refine W3 ?_ | ((first | refine W2 hT hM [] ?_ | refine W4 ?_ | refine W5 ?_ | refine W6 ?_ | refine W7 ?_ rfl);conv=>whnf)
       refine ⟨by omega,_,eF hlt,rfl,?_⟩
       conv=>whnf
       repeat first | refine W1 ?_ | refine W3 ?_ | ((first | refine W2 hT hM [] ?_ | refine W4 ?_ | refine W5 ?_ | refine W6 ?_ | refine W7 ?_ rfl);conv=>whnf)
       refine .inl ⟨_,Tryz.Eo b[i].1 base hri.1,.inl rfl,?_⟩
       conv=>whnf
       cases hc:b[i].1.contains base with
       | true=>
         rw [hc,if_pos rfl] at hnx
         conv=>whnf
         repeat first | refine W1 ?_ | refine W3 ?_ | ((first | refine W2 hT hM [] ?_ | refine W4 ?_ | refine W5 ?_ | refine W6 ?_ | refine W7 ?_ rfl);conv=>whnf)
         refine ⟨rfl,?_⟩
         conv=>whnf
         refine ⟨c::u,by rw [List.drop_zero,List.take_of_length_le (Nat.le_refl _)],by simp,?_⟩
         conv=>whnf
         refine ⟨_,rfl,Nat.le_refl _,?_,?_⟩
         ·rw [h16]
          have h1:∀ x:D,(List.take [x].length (List.drop 0 [x])).length=1:=fun _=>rfl
          simp only [h1];omega
         conv=>whnf
         repeat first | refine W1 ?_ | refine W3 ?_ | ((first | refine W2 hT hM [] ?_ | refine W4 ?_ | refine W5 ?_ | refine W6 ?_ | refine W7 ?_ rfl);conv=>whnf)
         refine ⟨by simp only;omega,?_⟩
         conv=>whnf
         refine ⟨(i+1,(c::u)++[enQ b[i].2]),[(4,some 4),(6,some 27)],[],?_,⟨by simp only;omega,hnx.symm⟩,by simp only;omega⟩
         ((conv=>whnf);repeat (first | exact True.intro | (refine And.intro (by first | rfl | exact ⟨rfl,rfl,rfl⟩ | exact ⟨rfl,rfl,by simp⟩ | exact ⟨rfl,rfl⟩ | exact ⟨rfl,by simp⟩ | (simp;done) | (simp;omega)) ?_;conv=>whnf)))
       | false=>
         rw [hc,if_neg (by simp),List.append_nil] at hnx
         conv=>whnf
         repeat first | refine W1 ?_ | refine W3 ?_ | ((first | refine W2 hT hM [] ?_ | refine W4 ?_ | refine W5 ?_ | refine W6 ?_ | refine W7 ?_ rfl);conv=>whnf)
         refine ⟨by simp only;omega,?_⟩
         conv=>whnf
         refine ⟨(i+1,c::u),[(4,some 4),(6,some 6)],[],?_,⟨by simp only;omega,hnx.symm⟩,by simp only;omega⟩
         ((conv=>whnf);repeat (first | exact True.intro | (refine And.intro (by first | rfl | exact ⟨rfl,rfl,rfl⟩ | exact ⟨rfl,rfl,by simp⟩ | exact ⟨rfl,rfl⟩ | exact ⟨rfl,by simp⟩ | (simp;done) | (simp;omega)) ?_;conv=>whnf)))
    ·have hii:i=b.length:=by simp at hb;omega
     subst hii
     clear hb
     rw [List.take_length] at hs
     have hsum:=Tryz.sum ((mO base b).map (·.2)) (by rw [List.length_map];exact Nat.le_trans (EO _ _) hl) (fun f hf=>by
      obtain ⟨w,hw,rfl⟩:=List.mem_map.1 hf;exact (hr w (List.mem_filter.1 hw).1).2)
     have hms:((mO base b).map (·.2)).map enQ=s:=by rw [hs,List.map_map];rfl
     have hh:holdsB b base=sumF (0,1) ((mO base b).map (·.2)):=by unfold holdsB;rw [hv];rfl
     rw [hms] at hsum
     rw [hh]
     cases s with
     | nil=>
       repeat first | refine W1 ?_ | refine W3 ?_ | ((first | refine W2 hT hM [] ?_ | refine W4 ?_ | refine W5 ?_ | refine W6 ?_ | refine W7 ?_ rfl);conv=>whnf)
       refine .inl ⟨_,hsum,.inl rfl,?_⟩
       conv=>whnf
       repeat first | refine W1 ?_ | refine W3 ?_ | ((first | refine W2 hT hM [] ?_ | refine W4 ?_ | refine W5 ?_ | refine W6 ?_ | refine W7 ?_ rfl);conv=>whnf)
       rfl
     | cons c u=>
       repeat first | refine W1 ?_ | refine W3 ?_ | ((first | refine W2 hT hM [] ?_ | refine W4 ?_ | refine W5 ?_ | refine W6 ?_ | refine W7 ?_ rfl);conv=>whnf)
       refine .inl ⟨c::u,by rw [List.drop_zero,List.take_of_length_le (Nat.le_refl _)],by simp,?_⟩
       conv=>whnf
       refine ⟨_,hsum,.inr rfl,?_⟩
       conv=>whnf
       repeat first | refine W1 ?_ | refine W3 ?_ | ((first | refine W2 hT hM [] ?_ | refine W4 ?_ | refine W5 ?_ | refine W6 ?_ | refine W7 ?_ rfl);conv=>whnf)
       rfl
end Go.Proofs.YtepmohahglddnaaGreatDoor
namespace Go.Proofs.YtepmohahglddnaaGreatDoor
open Go Go.Abs Go.Own
attribute [local irreducible] WP
theorem Eu (m w:Wt) (l:List Wt):iI m (w::l)=iI (if 0<kC w.2 m.2 then w else m) l:=rfl
theorem JI:∀ {l:List Wt} {m:Wt},iI m l=m∨iI m l∈l
 | [],m => .inl rfl
 | w::l,m=>by
   rw [Eu]
   rcases JI (l:=l) (m:=if 0<kC w.2 m.2 then w else m) with h | h
   ·rw [h]
    split
    ·exact .inr List.mem_cons_self
    ·exact .inl rfl
   ·exact .inr (List.mem_cons_of_mem _ h)
theorem Tryz.top (b:List Wt) (hl:b.length≤1000000) (hr:∀ w∈b,w.1.length≤1000000∧okI w.2) :
  Pure Tryz.prog 10 [.list (b.map enW)] [.list ((xY b).1.map enI),enQ (xY b).2]:=by
 refine Pure.of_wp hT (nt:=_) (c:=_) Tryz.func10 rfl rfl rfl rfl (by kernel_rfl) ?_
 intro w0 ok0 β0
 repeat first | refine W1 ?_ | refine W3 ?_ | ((first | refine W2 hT hM [] ?_ | refine W4 ?_ | refine W5 ?_ | refine W6 ?_ | refine W7 ?_ rfl);conv=>whnf)
 refine .inl ⟨_,Tryz.JZ b hl hr,.inl rfl,?_⟩
 conv=>whnf
 cases hv:vB b with
 | false=>
   conv=>whnf
   repeat first | refine W1 ?_ | refine W3 ?_ | ((first | refine W2 hT hM [] ?_ | refine W4 ?_ | refine W5 ?_ | refine W6 ?_ | refine W7 ?_ rfl);conv=>whnf)
   unfold xY;rw [hv];rfl
 | true=>
   have hV:=EI.1 hv
   obtain ⟨m,l,rfl⟩:∃ m l,b=m::l:=by
    cases b with
    | nil=>exact absurd rfl hV.2.1
    | cons m l=>exact ⟨m,l,rfl⟩
   have ht:xY (m::l)=iI m l:=by unfold xY;rw [hv];rfl
   have hcl:∀ (y:D),y∈(m::l).map enW→y.cells.length=(T 36).size:=fun y hy=>by obtain ⟨z,_,rfl⟩:=List.mem_map.1 hy;rfl
   have e1:List.drop ((some (1:Int)).getD 0).toNat (List.take ((none:Option Int).getD (((m::l).map enW).length:Int)).toNat ((m::l).map enW))=l.map enW:=by simp [List.take_of_length_le]
   have hl':l.length≤1000000:=by simp at hl;omega
   conv=>whnf
   repeat first | refine W1 ?_ | refine W3 ?_ | ((first | refine W2 hT hM [] ?_ | refine W4 ?_ | refine W5 ?_ | refine W6 ?_ | refine W7 ?_ rfl);conv=>whnf)
   refine ⟨by simp,_,rfl,rfl,?_⟩
   conv=>whnf
   repeat first | refine W1 ?_ | refine W3 ?_ | ((first | refine W2 hT hM [] ?_ | refine W4 ?_ | refine W5 ?_ | refine W6 ?_ | refine W7 ?_ rfl);conv=>whnf)
   refine ⟨⟨(by first | (simp;done) | (simp;omega)),(by first | (simp;done) | (simp;omega)),(by first | (simp;done) | (simp;omega))⟩,hcl,?_⟩
   conv=>whnf
   rw [e1]
   conv=>whnf
   repeat first | refine W1 ?_ | refine W3 ?_ | ((first | refine W2 hT hM [] ?_ | refine W4 ?_ | refine W5 ?_ | refine W6 ?_ | refine W7 ?_ rfl);conv=>whnf)
   refine WP.loop (α:=Nat×Wt) (fun x=>⟨[(0,.d (.list ((m::l).map enW))),(3,.ptr 3 0),(4,.ptr 4 0),(15,.d (.list (l.map enW))),(16,.d (.int .i64 l.length)),(17,.d (.int .i64 x.1))],
     [((3,0),some (.cell (.d (.int .i64 0)))),((3,1),some (.cell (.d (.int .i64 0)))),((4,0),some (.cell (.d (enL x.2.1)))),((4,1),some (.cell (.d (.int .i64 x.2.2.1)))),((4,2),some (.cell (.d (.int .i64 x.2.2.2))))],[3,4]⟩)
    (fun x=>x.1≤l.length∧okF x.2.2=true∧x.2.1.length≤1000000∧iI m l=iI x.2 (l.drop x.1)) (fun x=>l.length-x.1) (0,m) [(3,some 3),(4,some 4)] [] ?_ ?_ ?_
   ·((conv=>whnf);repeat (first | exact True.intro | (refine And.intro (by first | rfl | exact ⟨rfl,rfl,rfl⟩ | exact ⟨rfl,rfl,by simp⟩ | exact ⟨rfl,rfl⟩ | exact ⟨rfl,by simp⟩ | (simp;done) | (simp;omega)) ?_;conv=>whnf)))
   ·exact ⟨by simp,(hV.okF List.mem_cons_self).1,(hr m List.mem_cons_self).1,by simp⟩
   ·rintro ⟨i,y⟩ ⟨hi,hy,hyl,hb0⟩
    simp only at hi hy hyl hb0
    repeat first | refine W1 ?_ | refine W3 ?_ | ((first | refine W2 hT hM [] ?_ | refine W4 ?_ | refine W5 ?_ | refine W6 ?_ | refine W7 ?_ rfl);conv=>whnf)
    (split<;>rename_i hb<;>(try rw [hb])<;>(conv=>whnf))
    ·have hlt:i<l.length:=by simpa using hb
     clear hb
     have hm:l[i]∈m::l:=List.mem_cons_of_mem _ (List.getElem_mem hlt)
     have hli:=(hV.okF hm).1
     rw [List.drop_eq_getElem_cons hlt,Eu] at hb0
     repeat first | refine W1 ?_ | refine W3 ?_ | ((first | refine W2 hT hM [] ?_ | refine W4 ?_ | refine W5 ?_ | refine W6 ?_ | refine W7 ?_ rfl);conv=>whnf)
     refine ⟨by omega,_,eF hlt,rfl,?_⟩
     conv=>whnf
     repeat first | refine W1 ?_ | refine W3 ?_ | ((first | refine W2 hT hM [] ?_ | refine W4 ?_ | refine W5 ?_ | refine W6 ?_ | refine W7 ?_ rfl);conv=>whnf)
     refine .inl ⟨_,Tryz.compare l[i].2 y.2 hli hy,.inl rfl,?_⟩
     conv=>whnf
     repeat first | refine W1 ?_ | refine W3 ?_ | ((first | refine W2 hT hM [] ?_ | refine W4 ?_ | refine W5 ?_ | refine W6 ?_ | refine W7 ?_ rfl);conv=>whnf)
     (split<;>rename_i hb<;>(try rw [hb])<;>(conv=>whnf))
     ·have hc:0<kC l[i].2 y.2:=by simpa using hb
      rw [if_pos hc] at hb0
      repeat first | refine W1 ?_ | refine W3 ?_ | ((first | refine W2 hT hM [] ?_ | refine W4 ?_ | refine W5 ?_ | refine W6 ?_ | refine W7 ?_ rfl);conv=>whnf)
      refine ⟨by omega,?_⟩
      conv=>whnf
      refine ⟨(i+1,l[i]),[(3,some 3),(4,some 4)],[],?_,⟨by simp only;omega,hli,(hr _ hm).1,hb0⟩,by simp only;omega⟩
      ((conv=>whnf);repeat (first | exact True.intro | (refine And.intro (by first | rfl | exact ⟨rfl,rfl,rfl⟩ | exact ⟨rfl,rfl,by simp⟩ | exact ⟨rfl,rfl⟩ | exact ⟨rfl,by simp⟩ | (simp;done) | (simp;omega)) ?_;conv=>whnf)))
     ·have hc:¬ 0<kC l[i].2 y.2:=by simpa using hb
      rw [if_neg hc] at hb0
      repeat first | refine W1 ?_ | refine W3 ?_ | ((first | refine W2 hT hM [] ?_ | refine W4 ?_ | refine W5 ?_ | refine W6 ?_ | refine W7 ?_ rfl);conv=>whnf)
      refine ⟨by omega,?_⟩
      conv=>whnf
      refine ⟨(i+1,y),[(3,some 3),(4,some 4)],[],?_,⟨by simp only;omega,hy,hyl,hb0⟩,by simp only;omega⟩
      ((conv=>whnf);repeat (first | exact True.intro | (refine And.intro (by first | rfl | exact ⟨rfl,rfl,rfl⟩ | exact ⟨rfl,rfl,by simp⟩ | exact ⟨rfl,rfl⟩ | exact ⟨rfl,by simp⟩ | (simp;done) | (simp;omega)) ?_;conv=>whnf)))
    ·have hii:i=l.length:=by simp at hb;omega
     subst hii
     clear hb
     rw [List.drop_length] at hb0
     repeat first | refine W1 ?_ | refine W3 ?_ | ((first | refine W2 hT hM [] ?_ | refine W4 ?_ | refine W5 ?_ | refine W6 ?_ | refine W7 ?_ rfl);conv=>whnf)
     refine .inl ⟨_,Tryz.clone y.1 hyl,.inl rfl,?_⟩
     conv=>whnf
     repeat first | refine W1 ?_ | refine W3 ?_ | ((first | refine W2 hT hM [] ?_ | refine W4 ?_ | refine W5 ?_ | refine W6 ?_ | refine W7 ?_ rfl);conv=>whnf)
     rw [ht,hb0];rfl
end Go.Proofs.YtepmohahglddnaaGreatDoor
namespace Go.Proofs.YtepmohahglddnaaGreatDoor
open Go Go.Abs Go.Own
attribute [local irreducible] WP
theorem YK {b:List Wt} (h:LV (b.map (·.1))=true):b.length≤12∧∀ w∈b,w.1.length≤30:=by
 simp only [LV,Bool.and_eq_true,decide_eq_true_eq,List.all_eq_true,List.length_map,List.mem_map] at h
 exact ⟨h.1,fun w hw=>h.2 _ ⟨w,hw,rfl⟩⟩
theorem Tryz.ahn (l:List Int) (x:Int) (hl:l.length≤1000000):Pure Tryz.prog 9 [.list (l.map enI),.int .i64 x] [.bool (l.contains x)]:=by
 refine Pure.of_wp hT (nt:=_) (c:=_) Tryz.func9 rfl rfl rfl rfl (by kernel_rfl) ?_
 intro w0 ok0 β0
 repeat first | refine W1 ?_ | refine W3 ?_ | ((first | refine W2 hT hM [] ?_ | refine W4 ?_ | refine W5 ?_ | refine W6 ?_ | refine W7 ?_ rfl);conv=>whnf)
 refine WP.loop (α:=Nat) (fun i=>⟨[(0,.d (.list (l.map enI))),(1,.d (.int .i64 x)),(5,.d (.int .i64 i))],[],[]⟩) (fun i=>i≤l.length∧x∉l.take i) (fun i=>l.length-i) 0 [] [] ?_ ?_ ?_
 ·((conv=>whnf);repeat (first | exact True.intro | (refine And.intro (by first | rfl | exact ⟨rfl,rfl,rfl⟩ | exact ⟨rfl,rfl,by simp⟩ | exact ⟨rfl,rfl⟩ | exact ⟨rfl,by simp⟩ | (simp;done) | (simp;omega)) ?_;conv=>whnf)))
 ·simp
 ·rintro i ⟨hi,hx⟩
  repeat first | refine W1 ?_ | refine W3 ?_ | ((first | refine W2 hT hM [] ?_ | refine W4 ?_ | refine W5 ?_ | refine W6 ?_ | refine W7 ?_ rfl);conv=>whnf)
  (split<;>rename_i hb<;>(try rw [hb])<;>(conv=>whnf))
  ·have hlt:i<l.length:=by simpa using hb
   clear hb
   repeat first | refine W1 ?_ | refine W3 ?_ | ((first | refine W2 hT hM [] ?_ | refine W4 ?_ | refine W5 ?_ | refine W6 ?_ | refine W7 ?_ rfl);conv=>whnf)
   refine ⟨by omega,_,eF hlt,rfl,?_⟩
   conv=>whnf
   repeat first | refine W1 ?_ | refine W3 ?_ | ((first | refine W2 hT hM [] ?_ | refine W4 ?_ | refine W5 ?_ | refine W6 ?_ | refine W7 ?_ rfl);conv=>whnf)
   (split<;>rename_i hb<;>(try rw [hb])<;>(conv=>whnf))
   ·repeat first | refine W1 ?_ | refine W3 ?_ | ((first | refine W2 hT hM [] ?_ | refine W4 ?_ | refine W5 ?_ | refine W6 ?_ | refine W7 ?_ rfl);conv=>whnf)
    have:x∈l:=by
     have:l[i]=x:=by simpa using hb
     rw [← this];exact List.getElem_mem hlt
    rw [List.contains_iff_mem.2 this]
   ·repeat first | refine W1 ?_ | refine W3 ?_ | ((first | refine W2 hT hM [] ?_ | refine W4 ?_ | refine W5 ?_ | refine W6 ?_ | refine W7 ?_ rfl);conv=>whnf)
    refine ⟨by omega,?_⟩
    conv=>whnf
    refine ⟨i+1,[],[],?_,⟨by omega,?_⟩,by omega⟩
    ·((conv=>whnf);repeat (first | exact True.intro | (refine And.intro (by first | rfl | exact ⟨rfl,rfl,rfl⟩ | exact ⟨rfl,rfl,by simp⟩ | exact ⟨rfl,rfl⟩ | exact ⟨rfl,by simp⟩ | (simp;done) | (simp;omega)) ?_;conv=>whnf)))
    ·rw [List.take_succ_eq_append_getElem hlt]
     have:l[i]≠x:=by simpa using hb
     intro hm
     rcases List.mem_append.1 hm with h | h
     ·exact hx h
     ·exact this (List.mem_singleton.1 h).symm
  ·have:i=l.length:=by simp at hb;omega
   subst this
   repeat first | refine W1 ?_ | refine W3 ?_ | ((first | refine W2 hT hM [] ?_ | refine W4 ?_ | refine W5 ?_ | refine W6 ?_ | refine W7 ?_ rfl);conv=>whnf)
   rw [List.take_length] at hx
   rw [Bool.eq_false_iff.2 fun h=>hx (List.contains_iff_mem.1 h)]
theorem Tryz.MQ:Pure Tryz.prog 12 [] [enQ (1,1)]:=by
 refine Pure.of_wp hT (nt:=_) (c:=_) Tryz.func12 rfl rfl rfl rfl (by kernel_rfl) ?_
 intro w0 ok0 β0
 repeat first | refine W1 ?_ | refine W3 ?_ | ((first | refine W2 hT hM [] ?_ | refine W4 ?_ | refine W5 ?_ | refine W6 ?_ | refine W7 ?_ rfl);conv=>whnf)
 (repeat (refine ⟨by first | rfl | omega,?_⟩;conv=>whnf))
 repeat first | refine W1 ?_ | refine W3 ?_ | ((first | refine W2 hT hM [] ?_ | refine W4 ?_ | refine W5 ?_ | refine W6 ?_ | refine W7 ?_ rfl);conv=>whnf)
 rfl
theorem XG {base:Int} {b:List Wt} {i:Nat} (h:i<b.length):(mO base (b.take (i+1))).length=(mO base (b.take i)).length+(if b[i].1.contains base then 1 else 0):=by
 have:=congrArg List.length (Df (base:=base) h)
 rw [List.length_map,List.length_append,List.length_map] at this
 rw [this]
 split<;>rfl
set_option maxHeartbeats 2000000 in
theorem Tryz.WX (alive:Pure Tryz.prog 7 [] [.bool true]) (b:List Wt) (base:Int) (hl:b.length*24≤140737488355328) (hi:∀ w∈b,okI w.2) :
  Pure Tryz.prog 3 [.list (b.map enW),.int .i64 base] [.bool true]:=by
 refine Pure.of_wp hT (nt:=_) (c:=_) Tryz.func3 rfl rfl rfl rfl (by kernel_rfl) ?_
 intro w0 ok0 β0
 repeat first | refine W1 ?_ | refine W3 ?_ | ((first | refine W2 hT hM [] ?_ | refine W4 ?_ | refine W5 ?_ | refine W6 ?_ | refine W7 ?_ rfl);conv=>whnf)
 refine .inl ⟨_,Tryz.states b hl,.inl rfl,?_⟩
 conv=>whnf
 refine .inl ⟨_,Tryz.few (b.map (·.1)),.inl rfl,?_⟩
 conv=>whnf
 cases hf:LV (b.map (·.1)) with
 | false=>
   conv=>whnf
   repeat first | refine W1 ?_ | refine W3 ?_ | ((first | refine W2 hT hM [] ?_ | refine W4 ?_ | refine W5 ?_ | refine W6 ?_ | refine W7 ?_ rfl);conv=>whnf)
   refine .inl ⟨_,alive,.inl rfl,?_⟩
   conv=>whnf
   repeat first | refine W1 ?_ | refine W3 ?_ | ((first | refine W2 hT hM [] ?_ | refine W4 ?_ | refine W5 ?_ | refine W6 ?_ | refine W7 ?_ rfl);conv=>whnf)
 | true=>
   obtain ⟨h12,h30⟩:=YK hf
   have hl':b.length≤1000000:=by omega
   have hr:∀ w∈b,w.1.length≤1000000∧okI w.2:=fun w hw=>⟨by have:=h30 w hw;omega,hi w hw⟩
   conv=>whnf
   refine .inl ⟨_,Tryz.JZ b hl' hr,.inl rfl,?_⟩
   conv=>whnf
   cases hv:vB b with
   | false=>
     conv=>whnf
     repeat first | refine W1 ?_ | refine W3 ?_ | ((first | refine W2 hT hM [] ?_ | refine W4 ?_ | refine W5 ?_ | refine W6 ?_ | refine W7 ?_ rfl);conv=>whnf)
     refine .inl ⟨_,alive,.inl rfl,?_⟩
     conv=>whnf
     repeat first | refine W1 ?_ | refine W3 ?_ | ((first | refine W2 hT hM [] ?_ | refine W4 ?_ | refine W5 ?_ | refine W6 ?_ | refine W7 ?_ rfl);conv=>whnf)
   | true=>
     have hV:=EI.1 hv
     have hh:holdsB b base=sumF (0,1) ((mO base b).map (·.2)):=by unfold holdsB;rw [hv];rfl
     conv=>whnf
     repeat first | refine W1 ?_ | refine W3 ?_ | ((first | refine W2 hT hM [] ?_ | refine W4 ?_ | refine W5 ?_ | refine W6 ?_ | refine W7 ?_ rfl);conv=>whnf)
     refine .inl ⟨_,Tryz.holds b base hl' hr,.inl rfl,?_⟩
     conv=>whnf
     repeat first | refine W1 ?_ | refine W3 ?_ | ((first | refine W2 hT hM [] ?_ | refine W4 ?_ | refine W5 ?_ | refine W6 ?_ | refine W7 ?_ rfl);conv=>whnf)
     (split<;>rename_i hb<;>(try rw [hb])<;>(conv=>whnf))
     ·have he:(holdsB b base).2≠0:=by simpa using hb
      clear hb
      have h3:holdsB b base=((0,0),12):=by
       rw [hh] at he ⊢
       exact Ig (by decide) (fun f hf=>by obtain ⟨w,hw,rfl⟩:=List.mem_map.1 hf;exact (hV.okF (List.mem_filter.1 hw).1).1) he
      rw [h3]
      repeat first | refine W1 ?_ | refine W3 ?_ | ((first | refine W2 hT hM [] ?_ | refine W4 ?_ | refine W5 ?_ | refine W6 ?_ | refine W7 ?_ rfl);conv=>whnf)
      refine .inl ⟨_,alive,.inl rfl,?_⟩
      conv=>whnf
      repeat first | refine W1 ?_ | refine W3 ?_ | ((first | refine W2 hT hM [] ?_ | refine W4 ?_ | refine W5 ?_ | refine W6 ?_ | refine W7 ?_ rfl);conv=>whnf)
      rfl
     ·have he:(holdsB b base).2=0:=by simpa using hb
      clear hb
      have h0:sumF (0,1) ((mO base b).map (·.2))=((holdsB b base).1,0):=by rw [← hh];exact Prod.ext rfl he
      have hb0:=between hV base (t:=(holdsB b base).1) h0
      have hokp:okF (holdsB b base).1=true:=by
       exact (EL (by decide) (fun f hf=>by obtain ⟨w,hw,rfl⟩:=List.mem_map.1 hf;exact (hV.okF (List.mem_filter.1 hw).1).1) h0).1
      change 0≤_∧¬ _∧(_↔(mO base b).length=_)∧(_↔(mO base b).length=0) at hb0
      clear h0 hh
      generalize (holdsB b base).1=p at hb0 hokp ⊢
      rw [he]
      repeat first | refine W1 ?_ | refine W3 ?_ | ((first | refine W2 hT hM [] ?_ | refine W4 ?_ | refine W5 ?_ | refine W6 ?_ | refine W7 ?_ rfl);conv=>whnf)
      refine WP.loop (α:=Nat) (fun i=>⟨[(0,.d (.list (b.map enW))),(1,.d (.int .i64 base)),(5,.ptr 5 0),(7,.d (.int .i64 (mO base (b.take i)).length)),(8,.d (.int .i64 i))],
        [((5,0),some (.cell (.d (.int .i64 p.1)))),((5,1),some (.cell (.d (.int .i64 p.2))))],[5]⟩)
       (fun i=>i≤b.length) (fun i=>b.length-i) 0 [(5,some 5)] [] ?_ (Nat.zero_le _) ?_
      ·((conv=>whnf);repeat (first | exact True.intro | (refine And.intro (by first | rfl | exact ⟨rfl,rfl,rfl⟩ | exact ⟨rfl,rfl,by simp⟩ | exact ⟨rfl,rfl⟩ | exact ⟨rfl,by simp⟩ | (simp;done) | (simp;omega)) ?_;conv=>whnf)))
      ·intro i hi'
       repeat first | refine W1 ?_ | refine W3 ?_ | ((first | refine W2 hT hM [] ?_ | refine W4 ?_ | refine W5 ?_ | refine W6 ?_ | refine W7 ?_ rfl);conv=>whnf)
       (split<;>rename_i hb<;>(try rw [hb])<;>(conv=>whnf))
       ·have hlt:i<b.length:=by simpa using hb
        clear hb
        have hsl:=XG (base:=base) hlt
        have hsb:=EO base (b.take i)
        rw [List.length_take] at hsb
        repeat first | refine W1 ?_ | refine W3 ?_ | ((first | refine W2 hT hM [] ?_ | refine W4 ?_ | refine W5 ?_ | refine W6 ?_ | refine W7 ?_ rfl);conv=>whnf)
        refine ⟨by omega,_,eF hlt,rfl,?_⟩
        conv=>whnf
        refine .inl ⟨_,Tryz.ahn b[i].1 base (hr _ (List.getElem_mem hlt)).1,.inl rfl,?_⟩
        conv=>whnf
        cases hc:b[i].1.contains base with
        | true=>
          rw [hc,if_pos rfl] at hsl
          conv=>whnf
          repeat first | refine W1 ?_ | refine W3 ?_ | ((first | refine W2 hT hM [] ?_ | refine W4 ?_ | refine W5 ?_ | refine W6 ?_ | refine W7 ?_ rfl);conv=>whnf)
          refine ⟨by omega,?_⟩
          conv=>whnf
          repeat first | refine W1 ?_ | refine W3 ?_ | ((first | refine W2 hT hM [] ?_ | refine W4 ?_ | refine W5 ?_ | refine W6 ?_ | refine W7 ?_ rfl);conv=>whnf)
          refine ⟨by omega,?_⟩
          conv=>whnf
          refine ⟨i+1,[(5,some 5)],[],?_,by omega,by omega⟩
          ((conv=>whnf);repeat (first | exact True.intro | (refine And.intro (by first | rfl | exact ⟨rfl,rfl,rfl⟩ | exact ⟨rfl,rfl,by simp⟩ | exact ⟨rfl,rfl⟩ | exact ⟨rfl,by simp⟩ | (simp;done) | (simp;omega)) ?_;conv=>whnf)))
        | false=>
          rw [hc,if_neg (by simp)] at hsl
          conv=>whnf
          repeat first | refine W1 ?_ | refine W3 ?_ | ((first | refine W2 hT hM [] ?_ | refine W4 ?_ | refine W5 ?_ | refine W6 ?_ | refine W7 ?_ rfl);conv=>whnf)
          refine ⟨by omega,?_⟩
          conv=>whnf
          refine ⟨i+1,[(5,some 5)],[],?_,by omega,by omega⟩
          rw [hsl]
          ((conv=>whnf);repeat (first | exact True.intro | (refine And.intro (by first | rfl | exact ⟨rfl,rfl,rfl⟩ | exact ⟨rfl,rfl,by simp⟩ | exact ⟨rfl,rfl⟩ | exact ⟨rfl,by simp⟩ | (simp;done) | (simp;omega)) ?_;conv=>whnf)))
       ·have hii:i=b.length:=by simp at hb;omega
        subst hii
        clear hb
        rw [List.take_length]
        repeat first | refine W1 ?_ | refine W3 ?_ | ((first | refine W2 hT hM [] ?_ | refine W4 ?_ | refine W5 ?_ | refine W6 ?_ | refine W7 ?_ rfl);conv=>whnf)
        refine .inl ⟨_,Tryz.top b hl' hr,.inl rfl,?_⟩
        conv=>whnf
        repeat first | refine W1 ?_ | refine W3 ?_ | ((first | refine W2 hT hM [] ?_ | refine W4 ?_ | refine W5 ?_ | refine W6 ?_ | refine W7 ?_ rfl);conv=>whnf)
        refine WP.loop (α:=Nat) (fun i=>⟨[(0,.d (.list (b.map enW))),(5,.ptr 5 0),(7,.d (.int .i64 (mO base b).length)),(10,.ptr 10 0),(11,.d (.int .i64 i))],
          [((5,0),some (.cell (.d (.int .i64 p.1)))),((5,1),some (.cell (.d (.int .i64 p.2)))),((10,0),some (.cell (.d (.int .i64 (xY b).2.1)))),((10,1),some (.cell (.d (.int .i64 (xY b).2.2))))],[5,10]⟩)
         (fun i=>i≤b.length) (fun i=>b.length-i) 0 [(5,some 5),(10,some 10)] [] ?_ (Nat.zero_le _) ?_
        ·((conv=>whnf);repeat (first | exact True.intro | (refine And.intro (by first | rfl | exact ⟨rfl,rfl,rfl⟩ | exact ⟨rfl,rfl,by simp⟩ | exact ⟨rfl,rfl⟩ | exact ⟨rfl,by simp⟩ | (simp;done) | (simp;omega)) ?_;conv=>whnf)))
        ·intro i hi'
         repeat first | refine W1 ?_ | refine W3 ?_ | ((first | refine W2 hT hM [] ?_ | refine W4 ?_ | refine W5 ?_ | refine W6 ?_ | refine W7 ?_ rfl);conv=>whnf)
         (split<;>rename_i hb<;>(try rw [hb])<;>(conv=>whnf))
         ·have hlt:i<b.length:=by simpa using hb
          clear hb
          have htop:okF (xY b).2=true:=by
           have hp:0<b.length:=by omega
           unfold xY;rw [hv]
           cases b with
           | nil=>simp at hp
           | cons m l=>
             rcases JI (l:=l) (m:=m) with h | h
             ·show okF (iI m l).2=true
              rw [h];exact (hV.okF List.mem_cons_self).1
             ·exact (hV.okF (List.mem_cons_of_mem _ h)).1
          have hmax:=XD hV (List.getElem_mem hlt)
          repeat first | refine W1 ?_ | refine W3 ?_ | ((first | refine W2 hT hM [] ?_ | refine W4 ?_ | refine W5 ?_ | refine W6 ?_ | refine W7 ?_ rfl);conv=>whnf)
          refine ⟨by omega,_,eF hlt,rfl,?_⟩
          conv=>whnf
          refine .inl ⟨_,Tryz.compare b[i].2 (xY b).2 (hV.okF (List.getElem_mem hlt)).1 htop,.inl rfl,?_⟩
          conv=>whnf
          repeat first | refine W1 ?_ | refine W3 ?_ | ((first | refine W2 hT hM [] ?_ | refine W4 ?_ | refine W5 ?_ | refine W6 ?_ | refine W7 ?_ rfl);conv=>whnf)
          (split<;>rename_i hb<;>(try rw [hb])<;>(conv=>whnf))
          ·exact absurd (by simpa using hb) hmax
          ·repeat first | refine W1 ?_ | refine W3 ?_ | ((first | refine W2 hT hM [] ?_ | refine W4 ?_ | refine W5 ?_ | refine W6 ?_ | refine W7 ?_ rfl);conv=>whnf)
           refine ⟨by omega,?_⟩
           conv=>whnf
           refine ⟨i+1,[(5,some 5),(10,some 10)],[],?_,by omega,by omega⟩
           ((conv=>whnf);repeat (first | exact True.intro | (refine And.intro (by first | rfl | exact ⟨rfl,rfl,rfl⟩ | exact ⟨rfl,rfl,by simp⟩ | exact ⟨rfl,rfl⟩ | exact ⟨rfl,by simp⟩ | (simp;done) | (simp;omega)) ?_;conv=>whnf)))
         ·clear hb
          repeat first | refine W1 ?_ | refine W3 ?_ | ((first | refine W2 hT hM [] ?_ | refine W4 ?_ | refine W5 ?_ | refine W6 ?_ | refine W7 ?_ rfl);conv=>whnf)
          rw [decide_eq_false (by have:=hb0.1;omega)]
          conv=>whnf
          refine .inl ⟨_,Tryz.MQ,.inl rfl,?_⟩
          conv=>whnf
          refine .inl ⟨_,Tryz.compare p (1,1) hokp (by decide),.inl rfl,?_⟩
          conv=>whnf
          repeat first | refine W1 ?_ | refine W3 ?_ | ((first | refine W2 hT hM [] ?_ | refine W4 ?_ | refine W5 ?_ | refine W6 ?_ | refine W7 ?_ rfl);conv=>whnf)
          (split<;>rename_i hb<;>(try rw [hb])<;>(conv=>whnf))
          ·exact absurd (by simpa using hb) hb0.2.1
          clear hb
          repeat first | refine W1 ?_ | refine W3 ?_ | ((first | refine W2 hT hM [] ?_ | refine W4 ?_ | refine W5 ?_ | refine W6 ?_ | refine W7 ?_ rfl);conv=>whnf)
          refine .inl ⟨_,alive,.inl rfl,?_⟩
          conv=>whnf
          refine .inl ⟨_,Tryz.MQ,.inl rfl,?_⟩
          conv=>whnf
          rw [eqO]
          have q1:(((((mO base b).length:Nat):Int)==(((b.map enW).length:Nat):Int))==decide (p=(1,1)))=true:=by
           rw [beq_iff_eq,Bool.eq_iff_iff,decide_eq_true_iff,hb0.2.2.1,beq_iff_eq,List.length_map]
           exact Int.ofNat_inj
          have q2:(((((mO base b).length:Nat):Int)==0)==(p.1==0))=true:=by
           rw [beq_iff_eq,Bool.eq_iff_iff,beq_iff_eq,beq_iff_eq,hb0.2.2.2]
           exact Int.ofNat_inj
          rw [q1]
          conv=>whnf
          rw [q2]
          repeat first | refine W1 ?_ | refine W3 ?_ | ((first | refine W2 hT hM [] ?_ | refine W4 ?_ | refine W5 ?_ | refine W6 ?_ | refine W7 ?_ rfl);conv=>whnf)
end Go.Proofs.YtepmohahglddnaaGreatDoor
namespace Go.Proofs.YtepmohahglddnaaGreatDoor
open Go Go.RowKit
theorem ahy:([0,1,3]:List Nat).all (fun k=>!(Abs.gl k).isEmpty&&(Abs.gl k).all dOk&&Nat.beq ((Abs.gl k).map dV).length (Sim.cVs ((Abs.gl k).map dV)).length&&Nat.beq (Abs.gl k).length (Sim.cVs ((Abs.gl k).map dV)).length)=true:=by kernel_rfl
set_option maxRecDepth 100000 in
theorem alive_pure:Abs.Pure Tryz.prog 7 [] [.bool true]:=by
 have hgs:∀ k∈([0,1,3]:List Nat),(Abs.gl k≠[]∧(Abs.gl k).all dOk=true)∧((Abs.gl k).map dV).length=(Sim.cVs ((Abs.gl k).map dV)).length∧(Abs.gl k).length=(Sim.cVs ((Abs.gl k).map dV)).length:=fun k hk=>by
  have h:=List.all_eq_true.1 ahy k hk
  simp only [Bool.and_eq_true,Bool.not_eq_true',List.isEmpty_eq_false_iff] at h
  exact ⟨h.1.1,Nat.eq_of_beq_eq_true h.1.2,Nat.eq_of_beq_eq_true h.2⟩
 refine ⟨⟨_,Tryz.func7,by kernel_rfl,rfl⟩,fun ok w vs hgl hokb hsz hrd=>?_⟩
 obtain rfl:vs=#[]:=Array.eq_empty_of_size_eq_zero hsz
 refine (Sim.GX (T:=T) (ng:=7) (gs:=[0,1,3]) (F:=dA_root) (cs:=fun k=>Sim.cVs ((Abs.gl k).map dV)) (us:=fun k=>(Abs.gl k).map dV) (vs:=[]) YS (by kernel_rfl) (by decide) rfl rfl
  (fun g => .nil) (fun k hk=>?_) (fun k hk=>(hgs k hk).2.1) (fun k hk g i c u hc hu=>?_)).mono ?_
 ·obtain ⟨cur,t,fz,h1,h2,h3⟩:=GV (hgl k (hgs k hk).1.1) (hgs k hk).1.2 (hgs k hk).1.1
  exact ⟨cur,t,fz,h1,by rw [← (hgs k hk).2.2];exact h2,h3⟩
 ·rw [Sim.yP,hu] at hc
  cases hc
  refine ⟨Sim.J9 _ _ _,?_⟩
  obtain ⟨d,hd,rfl⟩:=List.mem_map.1 (List.mem_of_getElem? hu)
  exact (Vz (ok:=fun _=>True) (w:=w) (List.all_eq_true.1 (hgs k hk).1.2 d hd)).2.1
 ·rintro e w' ⟨rfl,hb⟩
  exact ⟨_,rfl,⟨hb.os,hb.tape,hb.output,hb.size,fun b hb' _=>hb.block b hb',fun b c T fz hbc=>⟨c,(hb.block b (Array.getElem?_eq_some_iff.1 hbc).1).trans hbc,rfl,fun _ _=>rfl⟩⟩,.bool true⟩
open Go.ChangeShapes Go.WideShapes Go.ChangeAt
theorem KP {H:Type} {enc:TypeId×Value→H} {P:Program} {f:Func} {s:ChangeSpec} {apart fresh handsOn again:Bool} {W W':World} {args:Array Value} {v:Value} {ds gs:List (DataW H)} {before pa pv:List MemPlace}
  (hW:DataW.Whole enc P f.params.toList s.vars apart W args.toList ds gs before) (hb:Below W.heap.size W W')
  (hres:∀ (b:Nat) (sp:Nat→Bool) (hd:Bool),DataW.TrodAll enc P W' b sp hd f.resultTypes.toList (v.resultList f.resultTypes.size) (s.fn H (ds++gs)).results [])
  (hargs:∀ sp:Nat→Bool,(∀ p∈before,sp p.block=true)→DataW.TrodAll enc P W' 0 sp true f.params.toList args.toList (s.fn H (ds++gs)).args pa)
  (hvars:∀ sp:Nat→Bool,(∀ p∈before,sp p.block=true)→DataW.TrodVars enc P W' sp s.vars (s.fn H (ds++gs)).vars pv)
  (hps:before=pa++pv)
  (hok:∀ (j:Nat) (t:TypeId) (r:Value),f.resultTypes[j]?=some t→(v.resultList f.resultTypes.size)[j]?=some r→Value.okWide P W' .any 0 t r) :
  s.post enc P f apart fresh handsOn again W args v W':=by
 have hlt:∀ p∈before,p.block<W.heap.size:=fun p hp=>by simpa using hW.lt p hp
 have hd:∀ p∈before,(fun b=>decide (b<W.heap.size)) p.block=true:=fun p hp=>by simpa using hlt p hp
 have ht:∀ p∈before,(fun _:Nat=>true) p.block=true:=fun _ _=>rfl
 refine ⟨ds,gs,before,[],pa,pv,hW,hres _ _ _,hargs _ hd,hvars _ hd,hb.frame _,fun _=>⟨hok,(s.fn H (ds++gs)).results++(s.fn H (ds++gs)).args,(s.fn H (ds++gs)).vars,before,⟨pa,pv,trodAll_append (hargs _ ht) (hres _ _ _),hvars _ ht,hps,fun b off hp=>?_,?_⟩,fun p hp _=>hp⟩⟩
 ·obtain ⟨_,_,_,_,_,hz,_⟩:=hW
  exact (hb.frozen (hlt _ hp)).trans (hz b off hp)
 ·obtain ⟨_,_,_,_,_,_,hn⟩:=hW
  exact hn
theorem own:ownKnob Tryz.prog.godebug=none:=by kernel_rfl
theorem laidOut:laidOutB Tryz.prog=true:=by kernel_rfl
set_option maxRecDepth 100000 in
theorem contract (H:Type) (enc:TypeId×Value→H) (W:World) (args:Array Value) (ds gs:List (DataW H)) (before:List MemPlace) (base:Nat)
  (hval:∀ (j:Nat) t v,Tryz.f3.params[j]?=some t→args[j]?=some v→Value.okWide Tryz.prog W .any base t v)
  (hW:DataW.Whole enc Tryz.prog Tryz.f3.params.toList Rows.beliefBetweenSpec.vars false W args.toList ds gs before) (hL:laidMetH Tryz.prog Rows.beliefBetweenRow.laid W)
  (hz:(DataW.weightsEach Tryz.prog (Tryz.f3.params.toList++(OpenSpec.ofChange Rows.beliefBetweenSpec).bare.plain.varTypes Tryz.prog) (ds++gs)).all (·≤reachBytes)=true) :
  Calls Tryz.prog 3 args W fun e W'=>∃ v,e = .returned v∧Rows.beliefBetweenSpec.post enc Tryz.prog Tryz.f3 false true false false W args v W':=by
 have hW':=hW
 obtain ⟨p,q,hA0,hV,rfl,hfz,hnd⟩:=hW
 have hA:DataW.TrodAll enc Tryz.prog W 0 (fun _=>true) true Tryz.f3.params.toList args.toList ds p:=hA0
 rw [Tryz.params3] at hA hval hz
 obtain ⟨v0,vs0,d0,ds0,p0,q0,hargs,rfl,rfl,h0,r0⟩:=trodAll_cons hA
 obtain ⟨v1,vs1,d1,ds1,p1,q1,hargs1,rfl,rfl,h1,r1⟩:=trodAll_cons r0
 obtain ⟨rfl,rfl,rfl⟩:=trodAll_nil r1
 subst hargs1
 obtain rfl:args=#[v0,v1]:=by cases args;simp_all
 obtain ⟨rfl,rfl⟩:=trodVars_none hV
 clear hA0 hA
 obtain ⟨b,hb,hi,hlen⟩:=aeu (hval 0 22 v0 rfl rfl) h0
 obtain ⟨n,rfl⟩:=aew (hval 1 3 v1 rfl rfl) h1
 have hbl:b.length*24≤140737488355328:=by
  rcases hlen with rfl | ⟨elems,spare,rfl,hle⟩
  ·decide
  ·have hs:=sized_slice hz (j:=0) (t:=22) rfl rfl Tryz.underlying22
   have k40:Tryz.prog.bytesOf 36=40:=by kernel_rfl
   have kr:reachBytes=140737488351232:=rfl
   rw [k40,kr] at hs
   omega
 refine ((Tryz.WX alive_pure b n hbl hi).calls (fun b=>b<W.heap.size) W #[v0,.int .i64 n] (gok hL) (fun _ h=>h) rfl (fun i u d' hu hd=>?_)).mono fun e W' ⟨v,he,hf,hr⟩=>?_
 ·match i with
  | 0=>simp at hu hd;subst hu;subst hd;exact hb
  | 1=>simp at hu hd;subst hu;subst hd;exact .int _ _
  | i+2=>simp at hu
 have hg:Below W.heap.size W W':=⟨hf.os,hf.tape,hf.output,hf.size,fun b hb=>hf.jJ b hb⟩
 subst he
 have hv:v = .bool true:=by cases hr;rfl
 subst hv
 have hlt:∀ x∈p0++(p1++[])++[],x.block<W.heap.size:=fun x hx=>by simpa using hW'.lt x hx
 refine ⟨_,rfl,KP (pa:=p0++(p1++[])) (pv:=[]) hW' hg (fun _ _ _=>trodAll_cons_mk (shut_bool Tryz.underlying4 _) trodAll_mk0) (fun sp hs=>?_) (fun _ _=>rfl) rfl (ok_one (by kernel_rfl) rfl (okWide_bool_mk Tryz.underlying4 _))⟩
 have e0:=WideElems.Trod_stays (sp':=sp) (W':=W') laidOut (by kernel_rfl) (of_decide_eq_true (by kernel_rfl)) h0 (fun x hx=>hg.same (hlt x (by simp [hx]))) (fun x hx=>hs x (by simp [hx]))
 have e1:=WideElems.Trod_stays (sp':=sp) (W':=W') laidOut (by kernel_rfl) (of_decide_eq_true (by kernel_rfl)) h1 (fun x hx=>hg.same (hlt x (by simp [hx]))) (fun x hx=>hs x (by simp [hx]))
 exact trodAll_cons_mk e0 (trodAll_cons_mk e1 trodAll_mk0)
end Go.Proofs.YtepmohahglddnaaGreatDoor
namespace Go.Proofs.YtepmohahglddnaaGreatDoor
open Go Go.RowKit Go.ChangeShapes Go.WideShapes Go.ChangeAt
def intRow {H:Type} (d:DataW H):List Value:=match d with
 | .lit l=>[Q8 l]
 | _=>[]
def intCells (d:DataW Unit):List Value:=match d with
 | .agg ds=>ds.flatMap intRow
 | _=>[]
def aeX (cs:List Value):Obj→Obj
 | .cells _ t frozen => .cells cs.toArray t frozen
 | o=>o
noncomputable def laidWorld (os:Os):World:=
 {World.holding Tryz.prog os ⟨#[],#[],[]⟩ with heap:=([(0,[.int .i64 1,.int .i64 1]),(1,[.int .i64 0,.int .i64 1]),(3,FP),(4,intCells Rows.laid_internal_strconv_uint64pow10),(5,intCells Rows.laid_math_bits_deBruijn32tab),(6,intCells Rows.laid_math_bits_deBruijn64tab)]:List (Nat×List Value)).foldl (fun h p=>h.modify p.1 (aeX p.2)) (World.holding Tryz.prog os ⟨#[],#[],[]⟩).heap }
set_option maxRecDepth 100000 in
theorem laid_met (os:Os):laidMet Tryz.prog Rows.beliefBetweenRow.laid ((laidWorld os).forCall (fun _ _=>0) ⟨#[],#[.slice none 0 0,.int .i64 0],[]⟩).memory:=
 laidMet_of_run' 8 (by kernel_rfl) (by kernel_rfl)
theorem reads (os:Os) {H:Type} (enc:TypeId×Value→H):∃ places,DataW.whole enc Tryz.prog ((laidWorld os).forCall (fun _ _=>0) ⟨#[],#[.slice none 0 0,.int .i64 0],[]⟩).memory Tryz.f3.params.toList Rows.beliefBetweenSpec.vars false #[Value.slice none 0 0,Value.int .i64 0].toList 8=some ([.nil,.lit (.int .i64 0)],[],places):=
 ⟨[],by kernel_rfl⟩
set_option maxRecDepth 100000 in
theorem lifted (os:Os) (started:os.Started) (H:Type) (enc:TypeId×Value→H) (F:Stop.Interp) :
  ReturnsInHanded {} Tryz.checked os 3 .any ((OpenSpec.ofChange Rows.beliefBetweenSpec).preRow enc Tryz.prog Tryz.f3 Rows.beliefBetweenRow.domain false Rows.beliefBetweenRow.laid) (((OpenSpec.ofChange Rows.beliefBetweenSpec).at F).post enc Tryz.prog Tryz.f3 false true false false):=by
 obtain ⟨places,hx⟩:=reads os enc
 refine returnsInHanded_of_row (C:=Tryz.checked) (s:=OpenSpec.ofChange Rows.beliefBetweenSpec) own started (by kernel_rfl) Tryz.func3
  (witness_row_at (enc:=enc) (C:=Tryz.checked) false (laidWorld os) #[.slice none 0 0,.int .i64 0] rfl (by kernel_rfl) (by kernel_rfl) (by kernel_rfl)
   (OpenSpec.preRow_of_cond 8 hx (by kernel_rfl) (fun k hk=>by cases hk) (by kernel_rfl) (laid_met os))) ?_
 intro W base args ds gs before hval hW _ _ hz hL _ _
 exact contract H enc W args ds gs before base hval hW hL hz
set_option maxRecDepth 100000 in
theorem said:Rows.BeliefBetweenSaid:=
 OpenClaim.holds_of_cond 3 Tryz.f3 rfl rfl rfl rfl rfl rfl rfl ⟨rfl,rfl,rfl,rfl,rfl⟩ rfl rfl rfl rfl rfl (by kernel_rfl) Tryz.func3 UJ
  (of_decide_eq_true (by kernel_rfl)) (by unfold Func.isWrapper;first | (rw [if_pos (by decide +kernel)];kernel_rfl) | (rw [if_neg (by decide +kernel)];exact ⟨rfl,rfl⟩))
  (fun os started H enc _ F=>by rw [OpenClaim.pre_eq_preRow];exact lifted os started H enc F)
theorem plain (f:FuncId) (fn:Func) (hf:Tryz.pinned.checked.prog.funcNamed "gameplayer/gameplayerlaw41.BeliefBetween" = some f) (hfn:Tryz.pinned.checked.prog.funcs[f]?=some fn) :
  false=Tryz.pinned.checked.prog.looks []∧∀ (j:Nat) t,fn.params[j]?=some t→Tryz.pinned.checked.prog.wantsStandIn t=false:=by
 obtain rfl:f=3:=Option.some.inj ((show Tryz.prog.funcNamed "gameplayer/gameplayerlaw41.BeliefBetween" = some 3 by kernel_rfl).symm.trans hf) |>.symm
 obtain rfl:fn=Tryz.f3:=(Option.some.inj (Tryz.func3.symm.trans hfn)).symm
 refine ⟨by kernel_rfl,fun j t ht=>?_⟩
 rw [Tryz.params3] at ht
 have ht':t=22∨t=3:=by simpa using Array.mem_of_getElem? ht
 rcases ht' with rfl | rfl
 ·exact (show Tryz.prog.wantsStandIn 22=false by kernel_rfl)
 ·exact (show Tryz.prog.wantsStandIn 3=false by kernel_rfl)
set_option maxRecDepth 100000 in
theorem card:Rows.BeliefBetweenCardSaid:=
 Claim7.holds_tied_plain_at .later [] _ _ _ _ said (fun _ h=>by cases h) (by kernel_rfl) (fun _ h=>by cases h) beliefBetween_row_tie rfl ⟨rfl,rfl⟩ (by kernel_rfl) rfl plain (by kernel_rfl)
#print axioms card
end Go.Proofs.YtepmohahglddnaaGreatDoor
