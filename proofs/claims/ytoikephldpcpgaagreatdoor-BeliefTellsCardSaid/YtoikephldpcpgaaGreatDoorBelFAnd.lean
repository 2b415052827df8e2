/- Walks: R41's Valid. -/
import Derived.Test.YtoikephldpcpgaaGreatDoorBelDAnd
import Derived.Test.YtoikephldpcpgaaGreatDoorOwnB2One
import Derived.Test.YtoikephldpcpgaaGreatDoorBRunAOne
import Derived.Test.YtoikephldpcpgaaGreatDoorBelCAnd
import Derived.Test.YtoikephldpcpgaaGreatDoorSimDA24And
import Derived.SizedLaws
set_option linter.unusedVariables false
set_option linter.unusedSimpArgs false
set_option linter.all false
namespace Go.Proofs.YtoikephldpcpgaaGreatDoor
open Go Go.Abs Go.Own
attribute [local irreducible] WP
theorem Tryz.Ru (b:List Wt) (hl:b.length≤1000000):Pure Tryz.prog 37 [.list (b.map enW)] [.list ((b.map (·.2)).map enQ)]:=by
 have h16:(T 28).bytes=16:=rfl
 refine Pure.of_wp hT (nt:=_) (c:=_) Tryz.func37 rfl rfl rfl rfl (by kernel_rfl) ?_
 intro w0 ok0 β0
 repeat first | refine W1 ?_ | refine W3 ?_ | ((first | refine W2 hT hM [] ?_ | refine W4 ?_ | refine W5 ?_ | refine W6 ?_ | refine W7 ?_ rfl);conv=>whnf)
 refine WP.loop (α:=Nat×List D) (fun x=>⟨[(0,.d (.list (b.map enW))),(3,QV 3 2 x.2),(4,.d (.int .i64 x.1))],QY 3 2 x.2,QW 3 x.2⟩)
  (fun x=>x.1≤b.length∧x.2=(b.take x.1).map fun w=>enQ w.2) (fun x=>b.length-x.1) (0,[]) [] [] ?_ ?_ ?_
 ·((conv=>whnf);repeat (first | exact True.intro | (refine And.intro (by first | rfl | exact ⟨rfl,rfl,rfl⟩ | exact ⟨rfl,rfl,by simp⟩ | exact ⟨rfl,rfl⟩ | exact ⟨rfl,by simp⟩ | (simp;done) | (simp;omega)) ?_;conv=>whnf)))
 ·simp
 ·rintro ⟨i,s⟩ ⟨hi,hs⟩
  simp only at hi hs
  repeat first | refine W1 ?_ | refine W3 ?_ | ((first | refine W2 hT hM [] ?_ | refine W4 ?_ | refine W5 ?_ | refine W6 ?_ | refine W7 ?_ rfl);conv=>whnf)
  (split<;>rename_i hb<;>(try rw [hb])<;>(conv=>whnf))
  ·have hlt:i<b.length:=by simpa using hb
   clear hb
   have hnx:=y8 (fun w:Wt=>enQ w.2) hlt
   rw [← hs] at hnx
   have hsl:s.length≤1000000:=by rw [hs];simp;omega
   repeat first | refine W1 ?_ | refine W3 ?_ | ((first | refine W2 hT hM [] ?_ | refine W4 ?_ | refine W5 ?_ | refine W6 ?_ | refine W7 ?_ rfl);conv=>whnf)
   refine ⟨by omega,_,aZ hlt,rfl,?_⟩
   conv=>whnf
   cases s with
   | nil=>
     conv=>whnf
     refine ⟨rfl,?_⟩
     conv=>whnf
     refine ⟨_,rfl,Nat.le_refl _,Nat.le_of_ble_eq_true rfl,?_⟩
     conv=>whnf
     repeat first | refine W1 ?_ | refine W3 ?_ | ((first | refine W2 hT hM [] ?_ | refine W4 ?_ | refine W5 ?_ | refine W6 ?_ | refine W7 ?_ rfl);conv=>whnf)
     refine ⟨by omega,?_⟩
     conv=>whnf
     refine ⟨(i+1,[enQ b[i].2]),[(3,some 18)],[],?_,⟨by simp only;omega,hnx.symm⟩,by simp only;omega⟩
     ((conv=>whnf);repeat (first | exact True.intro | (refine And.intro (by first | rfl | exact ⟨rfl,rfl,rfl⟩ | exact ⟨rfl,rfl,by simp⟩ | exact ⟨rfl,rfl⟩ | exact ⟨rfl,by simp⟩ | (simp;done) | (simp;omega)) ?_;conv=>whnf)))
   | cons c u=>
     conv=>whnf
     refine ⟨rfl,?_⟩
     conv=>whnf
     refine ⟨c::u,by rw [List.drop_zero,List.take_of_length_le (Nat.le_refl _)],by simp,?_⟩
     conv=>whnf
     refine ⟨_,rfl,Nat.le_refl _,?_,?_⟩
     ·rw [h16]
      have h1:∀ x:D,(List.take [x].length (List.drop 0 [x])).length=1:=fun _=>rfl
      simp only [h1];omega
     conv=>whnf
     repeat first | refine W1 ?_ | refine W3 ?_ | ((first | refine W2 hT hM [] ?_ | refine W4 ?_ | refine W5 ?_ | refine W6 ?_ | refine W7 ?_ rfl);conv=>whnf)
     refine ⟨by omega,?_⟩
     conv=>whnf
     refine ⟨(i+1,(c::u)++[enQ b[i].2]),[(3,some 18)],[],?_,⟨by simp only;omega,hnx.symm⟩,by simp only;omega⟩
     ((conv=>whnf);repeat (first | exact True.intro | (refine And.intro (by first | rfl | exact ⟨rfl,rfl,rfl⟩ | exact ⟨rfl,rfl,by simp⟩ | exact ⟨rfl,rfl⟩ | exact ⟨rfl,by simp⟩ | (simp;done) | (simp;omega)) ?_;conv=>whnf)))
  ·have hii:i=b.length:=by simp at hb;omega
   subst hii
   clear hb
   rw [List.take_length] at hs
   have hfin:((b.map (·.2)).map enQ)=s:=by rw [hs,List.map_map];rfl
   rw [hfin]
   cases s with
   | nil=>repeat first | refine W1 ?_ | refine W3 ?_ | ((first | refine W2 hT hM [] ?_ | refine W4 ?_ | refine W5 ?_ | refine W6 ?_ | refine W7 ?_ rfl);conv=>whnf)
   | cons c u=>
     repeat first | refine W1 ?_ | refine W3 ?_ | ((first | refine W2 hT hM [] ?_ | refine W4 ?_ | refine W5 ?_ | refine W6 ?_ | refine W7 ?_ rfl);conv=>whnf)
     refine ⟨c::u,by rw [List.drop_zero,List.take_of_length_le (Nat.le_refl _)],by simp,?_⟩
     conv=>whnf
theorem Tryz.ahp:Pure Tryz.prog 38 [] [enQ (1,1)]:=by
 refine Pure.of_wp hT (nt:=_) (c:=_) Tryz.func38 rfl rfl rfl rfl (by kernel_rfl) ?_
 intro w0 ok0 β0
 repeat first | refine W1 ?_ | refine W3 ?_ | ((first | refine W2 hT hM [] ?_ | refine W4 ?_ | refine W5 ?_ | refine W6 ?_ | refine W7 ?_ rfl);conv=>whnf)
 (repeat (refine ⟨by first | rfl | omega,?_⟩;conv=>whnf))
 repeat first | refine W1 ?_ | refine W3 ?_ | ((first | refine W2 hT hM [] ?_ | refine W4 ?_ | refine W5 ?_ | refine W6 ?_ | refine W7 ?_ rfl);conv=>whnf)
 rfl
theorem Tryz.EJ (b:List Wt) (hl:b.length≤1000000) (hr:∀ w∈b,w.1.length≤1000000∧okI w.2):Pure Tryz.prog 12 [.list (b.map enW)] [.bool (vB b)]:=by
 refine Pure.of_wp hT (nt:=_) (c:=_) Tryz.func12 rfl rfl rfl rfl (by kernel_rfl) ?_
 intro w0 ok0 β0
 repeat first | refine W1 ?_ | refine W3 ?_ | ((first | refine W2 hT hM [] ?_ | refine W4 ?_ | refine W5 ?_ | refine W6 ?_ | refine W7 ?_ rfl);conv=>whnf)
 (split<;>rename_i hb<;>(try rw [hb])<;>(conv=>whnf))
 ·have h0:b=[]:=by simpa using hb
  repeat first | refine W1 ?_ | refine W3 ?_ | ((first | refine W2 hT hM [] ?_ | refine W4 ?_ | refine W5 ?_ | refine W6 ?_ | refine W7 ?_ rfl);conv=>whnf)
  rw [ahc fun h=>h.2.1 h0]
 have hne:b≠[]:=by simpa using hb
 clear hb
 repeat first | refine W1 ?_ | refine W3 ?_ | ((first | refine W2 hT hM [] ?_ | refine W4 ?_ | refine W5 ?_ | refine W6 ?_ | refine W7 ?_ rfl);conv=>whnf)
 refine WP.loop (α:=Nat) (fun i=>⟨[(0,.d (.list (b.map enW))),(3,.d (.int .i64 i))],[],[]⟩)
  (fun i=>i≤b.length∧∀ j,j<i→JV b j) (fun i=>b.length-i) 0 [] [] ?_ ?_ ?_
 ·((conv=>whnf);repeat (first | exact True.intro | (refine And.intro (by first | rfl | exact ⟨rfl,rfl,rfl⟩ | exact ⟨rfl,rfl,by simp⟩ | exact ⟨rfl,rfl⟩ | exact ⟨rfl,by simp⟩ | (simp;done) | (simp;omega)) ?_;conv=>whnf)))
 ·exact ⟨Nat.zero_le _,fun j hj=>by omega⟩
 ·rintro i ⟨hi,hok⟩
  repeat first | refine W1 ?_ | refine W3 ?_ | ((first | refine W2 hT hM [] ?_ | refine W4 ?_ | refine W5 ?_ | refine W6 ?_ | refine W7 ?_ rfl);conv=>whnf)
  (split<;>rename_i hb<;>(try rw [hb])<;>(conv=>whnf))
  ·have hlt:i<b.length:=by simpa using hb
   clear hb
   have hri:=hr _ (List.getElem_mem hlt)
   have nope:(JV b i→False)→vB b=false:=fun h=>IE h
   repeat first | refine W1 ?_ | refine W3 ?_ | ((first | refine W2 hT hM [] ?_ | refine W4 ?_ | refine W5 ?_ | refine W6 ?_ | refine W7 ?_ rfl);conv=>whnf)
   refine ⟨by omega,_,aZ hlt,rfl,?_⟩
   conv=>whnf
   repeat first | refine W1 ?_ | refine W3 ?_ | ((first | refine W2 hT hM [] ?_ | refine W4 ?_ | refine W5 ?_ | refine W6 ?_ | refine W7 ?_ rfl);conv=>whnf)
   refine WP.loop (α:=Nat) (fun k=>⟨[(0,.d (.list (b.map enW))),(3,.d (.int .i64 i)),(4,.d (.list (b[i].1.map enI))),(5,.d (.int .i64 k))],[],[]⟩)
    (fun k=>k≤b[i].1.length∧BZ b[i].1 k) (fun k=>b[i].1.length-k) 0 [] [] ?_ ?_ ?_
   ·((conv=>whnf);repeat (first | exact True.intro | (refine And.intro (by first | rfl | exact ⟨rfl,rfl,rfl⟩ | exact ⟨rfl,rfl,by simp⟩ | exact ⟨rfl,rfl⟩ | exact ⟨rfl,by simp⟩ | (simp;done) | (simp;omega)) ?_;conv=>whnf)))
   ·exact ⟨Nat.zero_le _,fun j h hj=>by omega,fun j h hj=>by omega⟩
   ·rintro k ⟨hk,ha⟩
    repeat first | refine W1 ?_ | refine W3 ?_ | ((first | refine W2 hT hM [] ?_ | refine W4 ?_ | refine W5 ?_ | refine W6 ?_ | refine W7 ?_ rfl);conv=>whnf)
    (split<;>rename_i hb<;>(try rw [hb])<;>(conv=>whnf))
    ·have hkl:k<b[i].1.length:=by simpa using hb
     clear hb
     repeat first | refine W1 ?_ | refine W3 ?_ | ((first | refine W2 hT hM [] ?_ | refine W4 ?_ | refine W5 ?_ | refine W6 ?_ | refine W7 ?_ rfl);conv=>whnf)
     refine ⟨by omega,_,aZ hkl,rfl,?_⟩
     conv=>whnf
     repeat first | refine W1 ?_ | refine W3 ?_ | ((first | refine W2 hT hM [] ?_ | refine W4 ?_ | refine W5 ?_ | refine W6 ?_ | refine W7 ?_ rfl);conv=>whnf)
     (split<;>rename_i hb<;>(try rw [hb])<;>(conv=>whnf))
     ·have hn:b[i].1[k]<0:=by simpa using hb
      repeat first | refine W1 ?_ | refine W3 ?_ | ((first | refine W2 hT hM [] ?_ | refine W4 ?_ | refine W5 ?_ | refine W6 ?_ | refine W7 ?_ rfl);conv=>whnf)
      rw [nope fun h=>by have:=(h hlt).1.1 _ (List.getElem_mem hkl);omega]
     ·have h0:0≤b[i].1[k]:=by simp at hb;omega
      clear hb
      (split<;>rename_i hb<;>(try rw [hb])<;>(conv=>whnf))
      ·have hk0:1≤k:=by simp at hb;omega
       clear hb
       refine ⟨by omega,_,aZ hkl,rfl,?_⟩
       conv=>whnf
       refine ⟨by omega,?_⟩
       conv=>whnf
       refine ⟨by omega,_,yM hk0 (by omega),rfl,?_⟩
       conv=>whnf
       repeat first | refine W1 ?_ | refine W3 ?_ | ((first | refine W2 hT hM [] ?_ | refine W4 ?_ | refine W5 ?_ | refine W6 ?_ | refine W7 ?_ rfl);conv=>whnf)
       (split<;>rename_i hb<;>(try rw [hb])<;>(conv=>whnf))
       ·have hle:b[i].1[k]≤b[i].1[k-1]:=by simpa using hb
        repeat first | refine W1 ?_ | refine W3 ?_ | ((first | refine W2 hT hM [] ?_ | refine W4 ?_ | refine W5 ?_ | refine W6 ?_ | refine W7 ?_ rfl);conv=>whnf)
        rw [nope fun h=>Qm hk0 hkl hle (h hlt).1]
       ·have hgt:b[i].1[k-1]<b[i].1[k]:=by simp at hb;omega
        repeat first | refine W1 ?_ | refine W3 ?_ | ((first | refine W2 hT hM [] ?_ | refine W4 ?_ | refine W5 ?_ | refine W6 ?_ | refine W7 ?_ rfl);conv=>whnf)
        refine ⟨by omega,?_⟩
        conv=>whnf
        refine ⟨k+1,[],[],?_,⟨by omega,ha.next hkl h0 fun _=>hgt⟩,by omega⟩
        ((conv=>whnf);repeat (first | exact True.intro | (refine And.intro (by first | rfl | exact ⟨rfl,rfl,rfl⟩ | exact ⟨rfl,rfl,by simp⟩ | exact ⟨rfl,rfl⟩ | exact ⟨rfl,by simp⟩ | (simp;done) | (simp;omega)) ?_;conv=>whnf)))
      ·have hk0:¬ 1≤k:=by simp at hb;omega
       clear hb
       repeat first | refine W1 ?_ | refine W3 ?_ | ((first | refine W2 hT hM [] ?_ | refine W4 ?_ | refine W5 ?_ | refine W6 ?_ | refine W7 ?_ rfl);conv=>whnf)
       refine ⟨by omega,?_⟩
       conv=>whnf
       refine ⟨k+1,[],[],?_,⟨by omega,ha.next hkl h0 fun h=>absurd h hk0⟩,by omega⟩
       ((conv=>whnf);repeat (first | exact True.intro | (refine And.intro (by first | rfl | exact ⟨rfl,rfl,rfl⟩ | exact ⟨rfl,rfl,by simp⟩ | exact ⟨rfl,rfl⟩ | exact ⟨rfl,by simp⟩ | (simp;done) | (simp;omega)) ?_;conv=>whnf)))
    ·have hkk:k=b[i].1.length:=by simp at hb;omega
     subst hkk
     have hasc:=ha.all
     clear hb ha
     have valid:=Tryz.EK b[i].2 hri.2.1 hri.2.2
     repeat first | refine W1 ?_ | refine W3 ?_ | ((first | refine W2 hT hM [] ?_ | refine W4 ?_ | refine W5 ?_ | refine W6 ?_ | refine W7 ?_ rfl);conv=>whnf)
     (split<;>rename_i hb<;>(try rw [hb])<;>(conv=>whnf))
     ·have hi0:1≤i:=by simp at hb;omega
      clear hb
      refine ⟨by omega,?_⟩
      conv=>whnf
      refine ⟨by omega,_,yM hi0 (by omega),rfl,?_⟩
      conv=>whnf
      have hrp:=hr _ (List.getElem_mem (show i-1<b.length by omega))
      refine .inl ⟨_,Tryz.RI b[i-1].1 b[i].1 hrp.1 hri.1,.inl rfl,?_⟩
      conv=>whnf
      repeat first | refine W1 ?_ | refine W3 ?_ | ((first | refine W2 hT hM [] ?_ | refine W4 ?_ | refine W5 ?_ | refine W6 ?_ | refine W7 ?_ rfl);conv=>whnf)
      (split<;>rename_i hb<;>(try rw [hb])<;>(conv=>whnf))
      ·have hc:0≤cmpL b[i-1].1 b[i].1:=by simpa using hb
       repeat first | refine W1 ?_ | refine W3 ?_ | ((first | refine W2 hT hM [] ?_ | refine W4 ?_ | refine W5 ?_ | refine W6 ?_ | refine W7 ?_ rfl);conv=>whnf)
       rw [nope fun h=>by have:=(h hlt).2.1 (i-1) (by omega);omega]
      ·have hc:cmpL b[i-1].1 b[i].1<0:=by simp at hb;omega
       clear hb
       refine ⟨by omega,_,aZ hlt,rfl,?_⟩
       conv=>whnf
       refine .inl ⟨_,valid,.inl rfl,?_⟩
       conv=>whnf
       cases hv:okF b[i].2 with
       | false=>
         conv=>whnf
         repeat first | refine W1 ?_ | refine W3 ?_ | ((first | refine W2 hT hM [] ?_ | refine W4 ?_ | refine W5 ?_ | refine W6 ?_ | refine W7 ?_ rfl);conv=>whnf)
         rw [nope fun h=>by rw [(h hlt).2.2.1] at hv;cases hv]
       | true=>
         conv=>whnf
         refine ⟨by omega,_,aZ hlt,rfl,?_⟩
         conv=>whnf
         repeat first | refine W1 ?_ | refine W3 ?_ | ((first | refine W2 hT hM [] ?_ | refine W4 ?_ | refine W5 ?_ | refine W6 ?_ | refine W7 ?_ rfl);conv=>whnf)
         (split<;>rename_i hb<;>(try rw [hb])<;>(conv=>whnf))
         ·have hn:b[i].2.1≤0:=by simpa using hb
          repeat first | refine W1 ?_ | refine W3 ?_ | ((first | refine W2 hT hM [] ?_ | refine W4 ?_ | refine W5 ?_ | refine W6 ?_ | refine W7 ?_ rfl);conv=>whnf)
          rw [nope fun h=>by have:=(h hlt).2.2.2;omega]
         ·have hn:1≤b[i].2.1:=by simp at hb;omega
          repeat first | refine W1 ?_ | refine W3 ?_ | ((first | refine W2 hT hM [] ?_ | refine W4 ?_ | refine W5 ?_ | refine W6 ?_ | refine W7 ?_ rfl);conv=>whnf)
          refine ⟨by omega,?_⟩
          conv=>whnf
          refine ⟨i+1,[],[],?_,⟨by omega,fun j hj=>?_⟩,by omega⟩
          ·((conv=>whnf);repeat (first | exact True.intro | (refine And.intro (by first | rfl | exact ⟨rfl,rfl,rfl⟩ | exact ⟨rfl,rfl,by simp⟩ | exact ⟨rfl,rfl⟩ | exact ⟨rfl,by simp⟩ | (simp;done) | (simp;omega)) ?_;conv=>whnf)))
          ·by_cases e:j=i
           ·subst e;exact fun h=>⟨hasc,fun k hk=>by obtain rfl:k=j-1:=by omega
                                                    exact hc,hv,hn⟩
           ·exact hok j (by omega)
     ·have hi0:i=0:=by simp at hb;omega
      clear hb
      conv=>whnf
      refine ⟨by omega,_,aZ hlt,rfl,?_⟩
      conv=>whnf
      refine .inl ⟨_,valid,.inl rfl,?_⟩
      conv=>whnf
      cases hv:okF b[i].2 with
      | false=>
        conv=>whnf
        repeat first | refine W1 ?_ | refine W3 ?_ | ((first | refine W2 hT hM [] ?_ | refine W4 ?_ | refine W5 ?_ | refine W6 ?_ | refine W7 ?_ rfl);conv=>whnf)
        rw [nope fun h=>by rw [(h hlt).2.2.1] at hv;cases hv]
      | true=>
        conv=>whnf
        refine ⟨by omega,_,aZ hlt,rfl,?_⟩
        conv=>whnf
        repeat first | refine W1 ?_ | refine W3 ?_ | ((first | refine W2 hT hM [] ?_ | refine W4 ?_ | refine W5 ?_ | refine W6 ?_ | refine W7 ?_ rfl);conv=>whnf)
        (split<;>rename_i hb<;>(try rw [hb])<;>(conv=>whnf))
        ·have hn:b[i].2.1≤0:=by simpa using hb
         repeat first | refine W1 ?_ | refine W3 ?_ | ((first | refine W2 hT hM [] ?_ | refine W4 ?_ | refine W5 ?_ | refine W6 ?_ | refine W7 ?_ rfl);conv=>whnf)
         rw [nope fun h=>by have:=(h hlt).2.2.2;omega]
        ·have hn:1≤b[i].2.1:=by simp at hb;omega
         repeat first | refine W1 ?_ | refine W3 ?_ | ((first | refine W2 hT hM [] ?_ | refine W4 ?_ | refine W5 ?_ | refine W6 ?_ | refine W7 ?_ rfl);conv=>whnf)
         refine ⟨by omega,?_⟩
         conv=>whnf
         refine ⟨i+1,[],[],?_,⟨by omega,fun j hj=>?_⟩,by omega⟩
         ·((conv=>whnf);repeat (first | exact True.intro | (refine And.intro (by first | rfl | exact ⟨rfl,rfl,rfl⟩ | exact ⟨rfl,rfl,by simp⟩ | exact ⟨rfl,rfl⟩ | exact ⟨rfl,by simp⟩ | (simp;done) | (simp;omega)) ?_;conv=>whnf)))
         ·by_cases e:j=i
          ·subst e;exact fun h=>⟨hasc,fun k hk=>by omega,hv,hn⟩
          ·exact hok j (by omega)
  ·have hii:i=b.length:=by simp at hb;omega
   subst hii
   clear hb
   have hall:∀ i,JV b i:=fun i=>by
    by_cases h:i<b.length
    ·exact hok i h
    ·exact fun h'=>absurd h' h
   have hlp:(b.map (·.2)).length≤1000000:=by simpa using hl
   have hip:∀ f∈b.map (·.2),okI f:=fun f hf=>by obtain ⟨w,hw,rfl⟩:=List.mem_map.1 hf;exact (hr w hw).2
   repeat first | refine W1 ?_ | refine W3 ?_ | ((first | refine W2 hT hM [] ?_ | refine W4 ?_ | refine W5 ?_ | refine W6 ?_ | refine W7 ?_ rfl);conv=>whnf)
   refine .inl ⟨_,Tryz.Ru b hl,.inl rfl,?_⟩
   conv=>whnf
   refine .inl ⟨_,Tryz.aak (b.map (·.2)) hlp hip,.inl rfl,?_⟩
   conv=>whnf
   repeat first | refine W1 ?_ | refine W3 ?_ | ((first | refine W2 hT hM [] ?_ | refine W4 ?_ | refine W5 ?_ | refine W6 ?_ | refine W7 ?_ rfl);conv=>whnf)
   have hvb:∀ p:Bool,(p=true↔sumF (0,1) (b.map (·.2))=((1,1),0))→vB b=p:=fun p hp=>by
    rw [Bool.eq_iff_iff,yY,hp]
    exact ⟨fun h=>h.2.2,fun h=>⟨hall,hne,h⟩⟩
   (split<;>rename_i hb<;>(try rw [hb])<;>(conv=>whnf))
   ·have h2:(sumF (0,1) (b.map (·.2))).2=0:=by simpa using hb
    refine .inl ⟨_,Tryz.ahp,.inl rfl,?_⟩
    conv=>whnf
    repeat first | refine W1 ?_ | refine W3 ?_ | ((first | refine W2 hT hM [] ?_ | refine W4 ?_ | refine W5 ?_ | refine W6 ?_ | refine W7 ?_ rfl);conv=>whnf)
    rw [eqO]
    rw [hvb (decide ((sumF (0,1) (b.map (·.2))).1=(1,1))) (by
     rw [decide_eq_true_iff]
     constructor
     ·intro h;exact Prod.ext h h2
     ·intro h;rw [h])]
   ·have h2:(sumF (0,1) (b.map (·.2))).2≠0:=by simpa using hb
    repeat first | refine W1 ?_ | refine W3 ?_ | ((first | refine W2 hT hM [] ?_ | refine W4 ?_ | refine W5 ?_ | refine W6 ?_ | refine W7 ?_ rfl);conv=>whnf)
    rw [hvb false (by simp;intro h;rw [h] at h2;exact absurd rfl h2)]
end Go.Proofs.YtoikephldpcpgaaGreatDoor
namespace Go.Proofs.YtoikephldpcpgaaGreatDoor
open Go Go.Abs Go.Own
attribute [local irreducible] WP
theorem ZP {l:List Int} (h:Asc l) {k:Nat} (hk:k<l.length):l[k]∉l.take k:=by
 intro hm
 obtain ⟨j,hj,he⟩:=List.mem_take_iff_getElem.1 hm
 have:=List.pairwise_iff_getElem.1 h j k (by omega) hk (by omega)
 omega
theorem Tryz.YB (b:List Wt) (base:Int) (hl:b.length≤1000000) (hr:∀ w∈b,w.1.length≤1000000∧okI w.2) :
  Pure Tryz.prog 8 [.list (b.map enW),.int .i64 base] [enQ (holdsB b base).1,.int .i64 (holdsB b base).2]:=by
 have h16:(T 28).bytes=16:=rfl
 refine Pure.of_wp hT (nt:=_) (c:=_) Tryz.func8 rfl rfl rfl rfl (by kernel_rfl) ?_
 intro w0 ok0 β0
 repeat first | refine W1 ?_ | refine W3 ?_ | ((first | refine W2 hT hM [] ?_ | refine W4 ?_ | refine W5 ?_ | refine W6 ?_ | refine W7 ?_ rfl);conv=>whnf)
 refine .inl ⟨_,Tryz.EJ b hl hr,.inl rfl,?_⟩
 conv=>whnf
 cases hv:vB b with
 | false=>
   conv=>whnf
   repeat first | refine W1 ?_ | refine W3 ?_ | ((first | refine W2 hT hM [] ?_ | refine W4 ?_ | refine W5 ?_ | refine W6 ?_ | refine W7 ?_ rfl);conv=>whnf)
   unfold holdsB;rw [hv];rfl
 | true=>
   have hV:=yY.1 hv
   conv=>whnf
   repeat first | refine W1 ?_ | refine W3 ?_ | ((first | refine W2 hT hM [] ?_ | refine W4 ?_ | refine W5 ?_ | refine W6 ?_ | refine W7 ?_ rfl);conv=>whnf)
   refine WP.loop (α:=Nat×List D) (fun x=>⟨[(0,.d (.list (b.map enW))),(1,.d (.int .i64 base)),(4,.ptr 4 0),(5,.d (.int .i64 0)),(6,QV 6 2 x.2),(7,.d (.int .i64 x.1))],
     ((4,0),some (.cell (.d (.int .i64 0))))::((4,1),some (.cell (.d (.int .i64 0))))::QY 6 2 x.2,4::QW 6 x.2⟩)
    (fun x=>x.1≤b.length∧x.2=(nU base (b.take x.1)).map fun w=>enQ w.2) (fun x=>b.length-x.1) (0,[]) [(4,some 4)] [] ?_ ?_ ?_
   ·((conv=>whnf);repeat (first | exact True.intro | (refine And.intro (by first | rfl | exact ⟨rfl,rfl,rfl⟩ | exact ⟨rfl,rfl,by simp⟩ | exact ⟨rfl,rfl⟩ | exact ⟨rfl,by simp⟩ | (simp;done) | (simp;omega)) ?_;conv=>whnf)))
   ·simp [nU]
   ·rintro ⟨i,s⟩ ⟨hi,hs⟩
    simp only at hi hs
    repeat first | refine W1 ?_ | refine W3 ?_ | ((first | refine W2 hT hM [] ?_ | refine W4 ?_ | refine W5 ?_ | refine W6 ?_ | refine W7 ?_ rfl);conv=>whnf)
    (split<;>rename_i hb<;>(try rw [hb])<;>(conv=>whnf))
    ·have hlt:i<b.length:=by simpa using hb
     clear hb
     have hri:=hr _ (List.getElem_mem hlt)
     have hasc:=(hV.1 i hlt).1.2
     have hs0:(nU base (b.take i)).length≤1000000:=Nat.le_trans (yG _ _) (by simp;omega)
     repeat first | refine W1 ?_ | refine W3 ?_ | ((first | refine W2 hT hM [] ?_ | refine W4 ?_ | refine W5 ?_ | refine W6 ?_ | refine W7 ?_ rfl);conv=>whnf)
     refine WP.loop (α:=Nat×List D) (fun x=>⟨[(0,.d (.list (b.map enW))),(1,.d (.int .i64 base)),(4,.ptr 4 0),(5,.d (.int .i64 0)),(6,QV 6 2 x.2),(7,.d (.int .i64 i)),(8,.d (.int .i64 x.1))],
       ((4,0),some (.cell (.d (.int .i64 0))))::((4,1),some (.cell (.d (.int .i64 0))))::QY 6 2 x.2,4::QW 6 x.2⟩)
      (fun x=>x.1≤b[i].1.length∧x.2=(nU base (b.take i)).map (fun w=>enQ w.2)++(if base∈b[i].1.take x.1 then [enQ b[i].2] else [])) (fun x=>b[i].1.length-x.1) (0,s) ((4,some 4)::aeT 6 s) [] ?_ ?_ ?_
     ·cases s<;>((conv=>whnf);repeat (first | exact True.intro | (refine And.intro (by first | rfl | exact ⟨rfl,rfl,rfl⟩ | exact ⟨rfl,rfl,by simp⟩ | exact ⟨rfl,rfl⟩ | exact ⟨rfl,by simp⟩ | (simp;done) | (simp;omega)) ?_;conv=>whnf)))
     ·simpa using hs
     ·rintro ⟨k,s⟩ ⟨hk,hs⟩
      simp only at hk hs
      repeat first | refine W1 ?_ | refine W3 ?_ | ((first | refine W2 hT hM [] ?_ | refine W4 ?_ | refine W5 ?_ | refine W6 ?_ | refine W7 ?_ rfl);conv=>whnf)
      refine ⟨by omega,_,aZ hlt,rfl,?_⟩
      conv=>whnf
      repeat first | refine W1 ?_ | refine W3 ?_ | ((first | refine W2 hT hM [] ?_ | refine W4 ?_ | refine W5 ?_ | refine W6 ?_ | refine W7 ?_ rfl);conv=>whnf)
      (split<;>rename_i hb<;>(try rw [hb])<;>(conv=>whnf))
      ·have hkl:k<b[i].1.length:=by simpa using hb
       clear hb
       have htk:∀ x:Int,x∈b[i].1.take (k+1)↔x∈b[i].1.take k∨x=b[i].1[k]:=fun x=>by
        rw [List.take_succ_eq_append_getElem hkl,List.mem_append,List.mem_singleton]
       repeat first | refine W1 ?_ | refine W3 ?_ | ((first | refine W2 hT hM [] ?_ | refine W4 ?_ | refine W5 ?_ | refine W6 ?_ | refine W7 ?_ rfl);conv=>whnf)
       refine ⟨by omega,_,aZ hlt,rfl,?_⟩
       conv=>whnf
       refine ⟨by omega,_,aZ hkl,rfl,?_⟩
       conv=>whnf
       repeat first | refine W1 ?_ | refine W3 ?_ | ((first | refine W2 hT hM [] ?_ | refine W4 ?_ | refine W5 ?_ | refine W6 ?_ | refine W7 ?_ rfl);conv=>whnf)
       (split<;>rename_i hb<;>(try rw [hb])<;>(conv=>whnf))
       ·have he:b[i].1[k]=base:=by simpa using hb
        clear hb
        have hnot:base∉b[i].1.take k:=by rw [← he];exact ZP hasc hkl
        rw [if_neg hnot,List.append_nil] at hs
        have hnx:s++[enQ b[i].2]=(nU base (b.take i)).map (fun w=>enQ w.2)++(if base∈b[i].1.take (k+1) then [enQ b[i].2] else []):=by
         rw [if_pos ((htk base).2 (.inr he.symm)),← hs]
        have hsl:s.length≤1000000:=by rw [hs,List.length_map];exact hs0
        repeat first | refine W1 ?_ | refine W3 ?_ | ((first | refine W2 hT hM [] ?_ | refine W4 ?_ | refine W5 ?_ | refine W6 ?_ | refine W7 ?_ rfl);conv=>whnf)
        refine ⟨by omega,_,aZ hlt,rfl,?_⟩
        conv=>whnf
        cases s with
        | nil=>
          conv=>whnf
          refine ⟨rfl,?_⟩
          conv=>whnf
          refine ⟨_,rfl,Nat.le_refl _,Nat.le_of_ble_eq_true rfl,?_⟩
          conv=>whnf
          repeat first | refine W1 ?_ | refine W3 ?_ | ((first | refine W2 hT hM [] ?_ | refine W4 ?_ | refine W5 ?_ | refine W6 ?_ | refine W7 ?_ rfl);conv=>whnf)
          refine ⟨by omega,?_⟩
          conv=>whnf
          refine ⟨(k+1,[enQ b[i].2]),[(4,some 4),(6,some 46)],[],?_,⟨by simp only;omega,hnx⟩,by simp only;omega⟩
          ((conv=>whnf);repeat (first | exact True.intro | (refine And.intro (by first | rfl | exact ⟨rfl,rfl,rfl⟩ | exact ⟨rfl,rfl,by simp⟩ | exact ⟨rfl,rfl⟩ | exact ⟨rfl,by simp⟩ | (simp;done) | (simp;omega)) ?_;conv=>whnf)))
        | cons c u=>
          conv=>whnf
          refine ⟨rfl,?_⟩
          conv=>whnf
          refine ⟨c::u,by rw [List.drop_zero,List.take_of_length_le (Nat.le_refl _)],by simp,?_⟩
          conv=>whnf
          refine ⟨_,rfl,Nat.le_refl _,?_,?_⟩
          ·rw [h16]
           have h1:∀ x:D,(List.take [x].length (List.drop 0 [x])).length=1:=fun _=>rfl
           simp only [h1];omega
          conv=>whnf
          repeat first | refine W1 ?_ | refine W3 ?_ | ((first | refine W2 hT hM [] ?_ | refine W4 ?_ | refine W5 ?_ | refine W6 ?_ | refine W7 ?_ rfl);conv=>whnf)
          refine ⟨by omega,?_⟩
          conv=>whnf
          refine ⟨(k+1,(c::u)++[enQ b[i].2]),[(4,some 4),(6,some 46)],[],?_,⟨by simp only;omega,hnx⟩,by simp only;omega⟩
          ((conv=>whnf);repeat (first | exact True.intro | (refine And.intro (by first | rfl | exact ⟨rfl,rfl,rfl⟩ | exact ⟨rfl,rfl,by simp⟩ | exact ⟨rfl,rfl⟩ | exact ⟨rfl,by simp⟩ | (simp;done) | (simp;omega)) ?_;conv=>whnf)))
       ·have he:b[i].1[k]≠base:=by simpa using hb
        have hnx:s=(nU base (b.take i)).map (fun w=>enQ w.2)++(if base∈b[i].1.take (k+1) then [enQ b[i].2] else []):=by
         rw [hs]
         by_cases hm:base∈b[i].1.take k
         ·rw [if_pos hm,if_pos ((htk base).2 (.inl hm))]
         ·rw [if_neg hm,if_neg fun h=>((htk base).1 h).elim hm fun e=>he e.symm]
        repeat first | refine W1 ?_ | refine W3 ?_ | ((first | refine W2 hT hM [] ?_ | refine W4 ?_ | refine W5 ?_ | refine W6 ?_ | refine W7 ?_ rfl);conv=>whnf)
        refine ⟨by omega,?_⟩
        conv=>whnf
        refine ⟨(k+1,s),(4,some 4)::aeT 6 s,[],?_,⟨by simp only;omega,hnx⟩,by simp only;omega⟩
        cases s<;>((conv=>whnf);repeat (first | exact True.intro | (refine And.intro (by first | rfl | exact ⟨rfl,rfl,rfl⟩ | exact ⟨rfl,rfl,by simp⟩ | exact ⟨rfl,rfl⟩ | exact ⟨rfl,by simp⟩ | (simp;done) | (simp;omega)) ?_;conv=>whnf)))
      ·have hkk:k=b[i].1.length:=by simp at hb;omega
       subst hkk
       clear hb
       rw [List.take_length] at hs
       repeat first | refine W1 ?_ | refine W3 ?_ | ((first | refine W2 hT hM [] ?_ | refine W4 ?_ | refine W5 ?_ | refine W6 ?_ | refine W7 ?_ rfl);conv=>whnf)
       refine ⟨by omega,?_⟩
       conv=>whnf
       refine ⟨(i+1,s),(4,some 4)::aeT 6 s,[],?_,⟨by simp only;omega,?_⟩,by simp only;omega⟩
       ·cases s<;>((conv=>whnf);repeat (first | exact True.intro | (refine And.intro (by first | rfl | exact ⟨rfl,rfl,rfl⟩ | exact ⟨rfl,rfl,by simp⟩ | exact ⟨rfl,rfl⟩ | exact ⟨rfl,by simp⟩ | (simp;done) | (simp;omega)) ?_;conv=>whnf)))
       ·simp only
        rw [hs,Dk hlt]
        congr 1
        simp only [List.contains_iff_mem]
    ·have hii:i=b.length:=by simp at hb;omega
     subst hii
     clear hb
     rw [List.take_length] at hs
     have hsum:=Tryz.aak ((nU base b).map (·.2)) (by rw [List.length_map];exact Nat.le_trans (yG _ _) hl) (fun f hf=>by
      obtain ⟨w,hw,rfl⟩:=List.mem_map.1 hf;exact (hr w (List.mem_filter.1 hw).1).2)
     have hms:((nU base b).map (·.2)).map enQ=s:=by rw [hs,List.map_map];rfl
     have hh:holdsB b base=sumF (0,1) ((nU base b).map (·.2)):=by unfold holdsB;rw [hv];rfl
     rw [hms] at hsum
     rw [hh]
     cases s with
     | nil=>
       repeat first | refine W1 ?_ | refine W3 ?_ | ((first | refine W2 hT hM [] ?_ | refine W4 ?_ | refine W5 ?_ | refine W6 ?_ | refine W7 ?_ rfl);conv=>whnf)
       refine .inl ⟨_,hsum,.inl rfl,?_⟩
       conv=>whnf
       repeat first | refine W1 ?_ | refine W3 ?_ | ((first | refine W2 hT hM [] ?_ | refine W4 ?_ | refine W5 ?_ | refine W6 ?_ | refine W7 ?_ rfl);conv=>whnf)
       rfl
     | cons c u=>
       repeat first | refine W1 ?_ | refine W3 ?_ | ((first | refine W2 hT hM [] ?_ | refine W4 ?_ | refine W5 ?_ | refine W6 ?_ | refine W7 ?_ rfl);conv=>whnf)
       refine .inl ⟨c::u,by rw [List.drop_zero,List.take_of_length_le (Nat.le_refl _)],by simp,?_⟩
       conv=>whnf
       refine ⟨_,hsum,.inr rfl,?_⟩
       conv=>whnf
       repeat first | refine W1 ?_ | refine W3 ?_ | ((first | refine W2 hT hM [] ?_ | refine W4 ?_ | refine W5 ?_ | refine W6 ?_ | refine W7 ?_ rfl);conv=>whnf)
       rfl
end Go.Proofs.YtoikephldpcpgaaGreatDoor
namespace Go.Proofs.YtoikephldpcpgaaGreatDoor
open Go Go.Abs Go.Own
attribute [local irreducible] WP
theorem wK (m w:Wt) (l:List Wt):jl m (w::l)=jl (if 0<kD w.2 m.2 then w else m) l:=rfl
theorem JH:∀ {l:List Wt} {m:Wt},jl m l=m∨jl m l∈l
 | [],m => .inl rfl
 | w::l,m=>by
   rw [wK]
   rcases JH (l:=l) (m:=if 0<kD w.2 m.2 then w else m) with h | h
   ·rw [h]
    split
    ·exact .inr List.mem_cons_self
    ·exact .inl rfl
   ·exact .inr (List.mem_cons_of_mem _ h)
theorem Tryz.top (b:List Wt) (hl:b.length≤1000000) (hr:∀ w∈b,w.1.length≤1000000∧okI w.2) :
  Pure Tryz.prog 9 [.list (b.map enW)] [.list ((ru b).1.map enI),enQ (ru b).2]:=by
 refine Pure.of_wp hT (nt:=_) (c:=_) Tryz.func9 rfl rfl rfl rfl (by kernel_rfl) ?_
 intro w0 ok0 β0
 repeat first | refine W1 ?_ | refine W3 ?_ | ((first | refine W2 hT hM [] ?_ | refine W4 ?_ | refine W5 ?_ | refine W6 ?_ | refine W7 ?_ rfl);conv=>whnf)
 refine .inl ⟨_,Tryz.JZ b hl hr,.inl rfl,?_⟩
 conv=>whnf
 cases hv:vB b with
 | false=>
   conv=>whnf
   repeat first | refine W1 ?_ | refine W3 ?_ | ((first | refine W2 hT hM [] ?_ | refine W4 ?_ | refine W5 ?_ | refine W6 ?_ | refine W7 ?_ rfl);conv=>whnf)
   unfold ru;rw [hv];rfl
 | true=>
   have hV:=yY.1 hv
   obtain ⟨m,l,rfl⟩:∃ m l,b=m::l:=by
    cases b with
    | nil=>exact absurd rfl hV.2.1
    | cons m l=>exact ⟨m,l,rfl⟩
   have ht:ru (m::l)=jl m l:=by unfold ru;rw [hv];rfl
   have hcl:∀ (y:D),y∈(m::l).map enW→y.cells.length=(T 39).size:=fun y hy=>by obtain ⟨z,_,rfl⟩:=List.mem_map.1 hy;rfl
   have e1:List.drop ((some (1:Int)).getD 0).toNat (List.take ((none:Option Int).getD (((m::l).map enW).length:Int)).toNat ((m::l).map enW))=l.map enW:=by simp [List.take_of_length_le]
   have hl':l.length≤1000000:=by simp at hl;omega
   conv=>whnf
   repeat first | refine W1 ?_ | refine W3 ?_ | ((first | refine W2 hT hM [] ?_ | refine W4 ?_ | refine W5 ?_ | refine W6 ?_ | refine W7 ?_ rfl);conv=>whnf)
   refine ⟨by simp,_,rfl,rfl,?_⟩
   conv=>whnf
   repeat first | refine W1 ?_ | refine W3 ?_ | ((first | refine W2 hT hM [] ?_ | refine W4 ?_ | refine W5 ?_ | refine W6 ?_ | refine W7 ?_ rfl);conv=>whnf)
   refine ⟨⟨(by first | (simp;done) | (simp;omega)),(by first | (simp;done) | (simp;omega)),(by first | (simp;done) | (simp;omega))⟩,hcl,?_⟩
   conv=>whnf
   rw [e1]
   conv=>whnf
   repeat first | refine W1 ?_ | refine W3 ?_ | ((first | refine W2 hT hM [] ?_ | refine W4 ?_ | refine W5 ?_ | refine W6 ?_ | refine W7 ?_ rfl);conv=>whnf)
   refine WP.loop (α:=Nat×Wt) (fun x=>⟨[(0,.d (.list ((m::l).map enW))),(3,.ptr 3 0),(4,.ptr 4 0),(15,.d (.list (l.map enW))),(16,.d (.int .i64 l.length)),(17,.d (.int .i64 x.1))],
     [((3,0),some (.cell (.d (.int .i64 0)))),((3,1),some (.cell (.d (.int .i64 0)))),((4,0),some (.cell (.d (enL x.2.1)))),((4,1),some (.cell (.d (.int .i64 x.2.2.1)))),((4,2),some (.cell (.d (.int .i64 x.2.2.2))))],[3,4]⟩)
    (fun x=>x.1≤l.length∧okF x.2.2=true∧x.2.1.length≤1000000∧jl m l=jl x.2 (l.drop x.1)) (fun x=>l.length-x.1) (0,m) [(3,some 3),(4,some 4)] [] ?_ ?_ ?_
   ·((conv=>whnf);repeat (first | exact True.intro | (refine And.intro (by first | rfl | exact ⟨rfl,rfl,rfl⟩ | exact ⟨rfl,rfl,by simp⟩ | exact ⟨rfl,rfl⟩ | exact ⟨rfl,by simp⟩ | (simp;done) | (simp;omega)) ?_;conv=>whnf)))
   ·exact ⟨by simp,(hV.okF List.mem_cons_self).1,(hr m List.mem_cons_self).1,by simp⟩
   ·rintro ⟨i,y⟩ ⟨hi,hy,hyl,hb0⟩
    simp only at hi hy hyl hb0
    repeat first | refine W1 ?_ | refine W3 ?_ | ((first | refine W2 hT hM [] ?_ | refine W4 ?_ | refine W5 ?_ | refine W6 ?_ | refine W7 ?_ rfl);conv=>whnf)
    (split<;>rename_i hb<;>(try rw [hb])<;>(conv=>whnf))
    ·have hlt:i<l.length:=by simpa using hb
     clear hb
     have hm:l[i]∈m::l:=List.mem_cons_of_mem _ (List.getElem_mem hlt)
     have hli:=(hV.okF hm).1
     rw [List.drop_eq_getElem_cons hlt,wK] at hb0
     repeat first | refine W1 ?_ | refine W3 ?_ | ((first | refine W2 hT hM [] ?_ | refine W4 ?_ | refine W5 ?_ | refine W6 ?_ | refine W7 ?_ rfl);conv=>whnf)
     refine ⟨by omega,_,aZ hlt,rfl,?_⟩
     conv=>whnf
     repeat first | refine W1 ?_ | refine W3 ?_ | ((first | refine W2 hT hM [] ?_ | refine W4 ?_ | refine W5 ?_ | refine W6 ?_ | refine W7 ?_ rfl);conv=>whnf)
     refine .inl ⟨_,Tryz.compare l[i].2 y.2 hli hy,.inl rfl,?_⟩
     conv=>whnf
     repeat first | refine W1 ?_ | refine W3 ?_ | ((first | refine W2 hT hM [] ?_ | refine W4 ?_ | refine W5 ?_ | refine W6 ?_ | refine W7 ?_ rfl);conv=>whnf)
     (split<;>rename_i hb<;>(try rw [hb])<;>(conv=>whnf))
     ·have hc:0<kD l[i].2 y.2:=by simpa using hb
      rw [if_pos hc] at hb0
      repeat first | refine W1 ?_ | refine W3 ?_ | ((first | refine W2 hT hM [] ?_ | refine W4 ?_ | refine W5 ?_ | refine W6 ?_ | refine W7 ?_ rfl);conv=>whnf)
      refine ⟨by omega,?_⟩
      conv=>whnf
      refine ⟨(i+1,l[i]),[(3,some 3),(4,some 4)],[],?_,⟨by simp only;omega,hli,(hr _ hm).1,hb0⟩,by simp only;omega⟩
      ((conv=>whnf);repeat (first | exact True.intro | (refine And.intro (by first | rfl | exact ⟨rfl,rfl,rfl⟩ | exact ⟨rfl,rfl,by simp⟩ | exact ⟨rfl,rfl⟩ | exact ⟨rfl,by simp⟩ | (simp;done) | (simp;omega)) ?_;conv=>whnf)))
     ·have hc:¬ 0<kD l[i].2 y.2:=by simpa using hb
      rw [if_neg hc] at hb0
      repeat first | refine W1 ?_ | refine W3 ?_ | ((first | refine W2 hT hM [] ?_ | refine W4 ?_ | refine W5 ?_ | refine W6 ?_ | refine W7 ?_ rfl);conv=>whnf)
      refine ⟨by omega,?_⟩
      conv=>whnf
      refine ⟨(i+1,y),[(3,some 3),(4,some 4)],[],?_,⟨by simp only;omega,hy,hyl,hb0⟩,by simp only;omega⟩
      ((conv=>whnf);repeat (first | exact True.intro | (refine And.intro (by first | rfl | exact ⟨rfl,rfl,rfl⟩ | exact ⟨rfl,rfl,by simp⟩ | exact ⟨rfl,rfl⟩ | exact ⟨rfl,by simp⟩ | (simp;done) | (simp;omega)) ?_;conv=>whnf)))
    ·have hii:i=l.length:=by simp at hb;omega
     subst hii
     clear hb
     rw [List.drop_length] at hb0
     repeat first | refine W1 ?_ | refine W3 ?_ | ((first | refine W2 hT hM [] ?_ | refine W4 ?_ | refine W5 ?_ | refine W6 ?_ | refine W7 ?_ rfl);conv=>whnf)
     refine .inl ⟨_,Tryz.clone y.1 hyl,.inl rfl,?_⟩
     conv=>whnf
     repeat first | refine W1 ?_ | refine W3 ?_ | ((first | refine W2 hT hM [] ?_ | refine W4 ?_ | refine W5 ?_ | refine W6 ?_ | refine W7 ?_ rfl);conv=>whnf)
     rw [ht,hb0];rfl
end Go.Proofs.YtoikephldpcpgaaGreatDoor
namespace Go.Proofs.YtoikephldpcpgaaGreatDoor
open Go Go.Abs Go.Own
attribute [local irreducible] WP
theorem Tryz.ahf (b:List Wt) (hl:b.length≤1000000) (hr:∀ w∈b,w.1.length≤1000000∧okI w.2) :
  Pure Tryz.prog 10 [.list (b.map enW)] [.list ((ru b).1.map enI),enQ (ru b).2]:=by
 refine Pure.of_wp hT (nt:=_) (c:=_) Tryz.func10 rfl rfl rfl rfl (by kernel_rfl) ?_
 intro w0 ok0 β0
 repeat first | refine W1 ?_ | refine W3 ?_ | ((first | refine W2 hT hM [] ?_ | refine W4 ?_ | refine W5 ?_ | refine W6 ?_ | refine W7 ?_ rfl);conv=>whnf)
 refine .inl ⟨_,Tryz.EJ b hl hr,.inl rfl,?_⟩
 conv=>whnf
 cases hv:vB b with
 | false=>
   conv=>whnf
   repeat first | refine W1 ?_ | refine W3 ?_ | ((first | refine W2 hT hM [] ?_ | refine W4 ?_ | refine W5 ?_ | refine W6 ?_ | refine W7 ?_ rfl);conv=>whnf)
   unfold ru;rw [hv];rfl
 | true=>
   have hV:=yY.1 hv
   have hpos:0<b.length:=List.length_pos_iff.2 hV.2.1
   have ht:ru b=jl b[0] (b.drop 1):=by
    unfold ru;rw [hv]
    cases b with
    | nil=>exact absurd rfl hV.2.1
    | cons m l=>rfl
   conv=>whnf
   repeat first | refine W1 ?_ | refine W3 ?_ | ((first | refine W2 hT hM [] ?_ | refine W4 ?_ | refine W5 ?_ | refine W6 ?_ | refine W7 ?_ rfl);conv=>whnf)
   refine WP.loop (α:=Nat×Nat) (fun x=>⟨[(0,.d (.list (b.map enW))),(3,.ptr 3 0),(4,.d (.int .i64 x.2)),(5,.d (.int .i64 x.1))],
     [((3,0),some (.cell (.d (.int .i64 0)))),((3,1),some (.cell (.d (.int .i64 0))))],[3]⟩)
    (fun x=>1≤x.1∧x.1≤b.length∧∃ h:x.2<b.length,ru b=jl b[x.2] (b.drop x.1)) (fun x=>b.length-x.1) (1,0) [(3,some 3)] [] ?_ ?_ ?_
   ·((conv=>whnf);repeat (first | exact True.intro | (refine And.intro (by first | rfl | exact ⟨rfl,rfl,rfl⟩ | exact ⟨rfl,rfl,by simp⟩ | exact ⟨rfl,rfl⟩ | exact ⟨rfl,by simp⟩ | (simp;done) | (simp;omega)) ?_;conv=>whnf)))
   ·exact ⟨Nat.le_refl _,hpos,hpos,ht⟩
   ·rintro ⟨i,y⟩ ⟨h1,hi,hy,hb0⟩
    simp only at h1 hi hy hb0
    repeat first | refine W1 ?_ | refine W3 ?_ | ((first | refine W2 hT hM [] ?_ | refine W4 ?_ | refine W5 ?_ | refine W6 ?_ | refine W7 ?_ rfl);conv=>whnf)
    (split<;>rename_i hb<;>(try rw [hb])<;>(conv=>whnf))
    ·have hlt:i<b.length:=by simpa using hb
     clear hb
     have hli:=(hV.okF (List.getElem_mem hlt)).1
     have hly:=(hV.okF (List.getElem_mem hy)).1
     rw [List.drop_eq_getElem_cons hlt,wK] at hb0
     repeat first | refine W1 ?_ | refine W3 ?_ | ((first | refine W2 hT hM [] ?_ | refine W4 ?_ | refine W5 ?_ | refine W6 ?_ | refine W7 ?_ rfl);conv=>whnf)
     refine ⟨by omega,_,aZ hlt,rfl,?_⟩
     conv=>whnf
     refine ⟨by omega,_,aZ hy,rfl,?_⟩
     conv=>whnf
     repeat first | refine W1 ?_ | refine W3 ?_ | ((first | refine W2 hT hM [] ?_ | refine W4 ?_ | refine W5 ?_ | refine W6 ?_ | refine W7 ?_ rfl);conv=>whnf)
     refine .inl ⟨_,Tryz.RJ b[i].2 b[y].2 hli hly,.inl rfl,?_⟩
     conv=>whnf
     repeat first | refine W1 ?_ | refine W3 ?_ | ((first | refine W2 hT hM [] ?_ | refine W4 ?_ | refine W5 ?_ | refine W6 ?_ | refine W7 ?_ rfl);conv=>whnf)
     (split<;>rename_i hb<;>(try rw [hb])<;>(conv=>whnf))
     ·have hc:0<kD b[i].2 b[y].2:=by simpa using hb
      rw [if_pos hc] at hb0
      repeat first | refine W1 ?_ | refine W3 ?_ | ((first | refine W2 hT hM [] ?_ | refine W4 ?_ | refine W5 ?_ | refine W6 ?_ | refine W7 ?_ rfl);conv=>whnf)
      refine ⟨by omega,?_⟩
      conv=>whnf
      refine ⟨(i+1,i),[(3,some 3)],[],?_,⟨by simp only;omega,by simp only;omega,hlt,hb0⟩,by simp only;omega⟩
      ((conv=>whnf);repeat (first | exact True.intro | (refine And.intro (by first | rfl | exact ⟨rfl,rfl,rfl⟩ | exact ⟨rfl,rfl,by simp⟩ | exact ⟨rfl,rfl⟩ | exact ⟨rfl,by simp⟩ | (simp;done) | (simp;omega)) ?_;conv=>whnf)))
     ·have hc:¬ 0<kD b[i].2 b[y].2:=by simpa using hb
      rw [if_neg hc] at hb0
      repeat first | refine W1 ?_ | refine W3 ?_ | ((first | refine W2 hT hM [] ?_ | refine W4 ?_ | refine W5 ?_ | refine W6 ?_ | refine W7 ?_ rfl);conv=>whnf)
      refine ⟨by omega,?_⟩
      conv=>whnf
      refine ⟨(i+1,y),[(3,some 3)],[],?_,⟨by simp only;omega,by simp only;omega,hy,hb0⟩,by simp only;omega⟩
      ((conv=>whnf);repeat (first | exact True.intro | (refine And.intro (by first | rfl | exact ⟨rfl,rfl,rfl⟩ | exact ⟨rfl,rfl,by simp⟩ | exact ⟨rfl,rfl⟩ | exact ⟨rfl,by simp⟩ | (simp;done) | (simp;omega)) ?_;conv=>whnf)))
    ·have hii:i=b.length:=by simp at hb;omega
     subst hii
     clear hb
     rw [List.drop_length] at hb0
     repeat first | refine W1 ?_ | refine W3 ?_ | ((first | refine W2 hT hM [] ?_ | refine W4 ?_ | refine W5 ?_ | refine W6 ?_ | refine W7 ?_ rfl);conv=>whnf)
     refine ⟨by omega,_,aZ hy,rfl,?_⟩
     conv=>whnf
     refine ⟨by omega,_,aZ hy,rfl,?_⟩
     conv=>whnf
     repeat first | refine W1 ?_ | refine W3 ?_ | ((first | refine W2 hT hM [] ?_ | refine W4 ?_ | refine W5 ?_ | refine W6 ?_ | refine W7 ?_ rfl);conv=>whnf)
     rw [hb0];rfl
end Go.Proofs.YtoikephldpcpgaaGreatDoor
namespace Go.Proofs.YtoikephldpcpgaaGreatDoor
open Go Go.Abs Go.Own
attribute [local irreducible] WP
theorem YJ {b:List Wt} (h:LU (b.map (·.1))=true):b.length≤12∧∀ w∈b,w.1.length≤30:=by
 simp only [LU,Bool.and_eq_true,decide_eq_true_eq,List.all_eq_true,List.length_map,List.mem_map] at h
 exact ⟨h.1,fun w hw=>h.2 _ ⟨w,hw,rfl⟩⟩
set_option maxHeartbeats 2000000 in
theorem Tryz.tells (alive:Pure Tryz.prog 6 [] [.bool true]) (b:List Wt) (base:Int) (hl:b.length*24≤140737488355328) (hi:∀ w∈b,okI w.2) :
  Pure Tryz.prog 3 [.list (b.map enW),.int .i64 base] [.bool true]:=by
 refine Pure.of_wp hT (nt:=_) (c:=_) Tryz.func3 rfl rfl rfl rfl (by kernel_rfl) ?_
 intro w0 ok0 β0
 repeat first | refine W1 ?_ | refine W3 ?_ | ((first | refine W2 hT hM [] ?_ | refine W4 ?_ | refine W5 ?_ | refine W6 ?_ | refine W7 ?_ rfl);conv=>whnf)
 refine .inl ⟨_,Tryz.states b hl,.inl rfl,?_⟩
 conv=>whnf
 refine .inl ⟨_,Tryz.few (b.map (·.1)),.inl rfl,?_⟩
 conv=>whnf
 cases hf:LU (b.map (·.1)) with
 | false=>
   conv=>whnf
   repeat first | refine W1 ?_ | refine W3 ?_ | ((first | refine W2 hT hM [] ?_ | refine W4 ?_ | refine W5 ?_ | refine W6 ?_ | refine W7 ?_ rfl);conv=>whnf)
   refine .inl ⟨_,alive,.inl rfl,?_⟩
   conv=>whnf
   repeat first | refine W1 ?_ | refine W3 ?_ | ((first | refine W2 hT hM [] ?_ | refine W4 ?_ | refine W5 ?_ | refine W6 ?_ | refine W7 ?_ rfl);conv=>whnf)
 | true=>
   obtain ⟨h12,h30⟩:=YJ hf
   have hl':b.length≤1000000:=by omega
   have hr:∀ w∈b,w.1.length≤1000000∧okI w.2:=fun w hw=>⟨by have:=h30 w hw;omega,hi w hw⟩
   have ht:(ru b).1.length≤1000000:=by
    unfold ru
    split
    ·cases b with
     | nil=>simp
     | cons m l=>
       rcases JH (l:=l) (m:=m) with h | h
       ·show (jl m l).1.length≤_
        rw [h];exact (hr m List.mem_cons_self).1
       ·exact (hr _ (List.mem_cons_of_mem _ h)).1
    ·simp
   have hints:=Tryz.ints (ru b).1 (ru b).1 ht ht
   rw [beq_self_eq_true] at hints
   conv=>whnf
   repeat first | refine W1 ?_ | refine W3 ?_ | ((first | refine W2 hT hM [] ?_ | refine W4 ?_ | refine W5 ?_ | refine W6 ?_ | refine W7 ?_ rfl);conv=>whnf)
   refine .inl ⟨_,Tryz.holds b base hl' hr,.inl rfl,?_⟩
   conv=>whnf
   repeat first | refine W1 ?_ | refine W3 ?_ | ((first | refine W2 hT hM [] ?_ | refine W4 ?_ | refine W5 ?_ | refine W6 ?_ | refine W7 ?_ rfl);conv=>whnf)
   refine .inl ⟨_,Tryz.YB b base hl' hr,.inl rfl,?_⟩
   conv=>whnf
   repeat first | refine W1 ?_ | refine W3 ?_ | ((first | refine W2 hT hM [] ?_ | refine W4 ?_ | refine W5 ?_ | refine W6 ?_ | refine W7 ?_ rfl);conv=>whnf)
   refine .inl ⟨_,Tryz.top b hl' hr,.inl rfl,?_⟩
   conv=>whnf
   repeat first | refine W1 ?_ | refine W3 ?_ | ((first | refine W2 hT hM [] ?_ | refine W4 ?_ | refine W5 ?_ | refine W6 ?_ | refine W7 ?_ rfl);conv=>whnf)
   refine .inl ⟨_,Tryz.ahf b hl' hr,.inl rfl,?_⟩
   conv=>whnf
   repeat first | refine W1 ?_ | refine W3 ?_ | ((first | refine W2 hT hM [] ?_ | refine W4 ?_ | refine W5 ?_ | refine W6 ?_ | refine W7 ?_ rfl);conv=>whnf)
   refine .inl ⟨_,alive,.inl rfl,?_⟩
   conv=>whnf
   refine .inl ⟨_,Tryz.JZ b hl' hr,.inl rfl,?_⟩
   conv=>whnf
   refine .inl ⟨_,Tryz.EJ b hl' hr,.inl rfl,?_⟩
   conv=>whnf
   rw [beq_self_eq_true]
   conv=>whnf
   rw [eqQ,decide_eq_true rfl]
   conv=>whnf
   rw [beq_self_eq_true]
   conv=>whnf
   refine .inl ⟨_,hints,.inl rfl,?_⟩
   conv=>whnf
   rw [eqQ,decide_eq_true rfl]
   conv=>whnf
   repeat first | refine W1 ?_ | refine W3 ?_ | ((first | refine W2 hT hM [] ?_ | refine W4 ?_ | refine W5 ?_ | refine W6 ?_ | refine W7 ?_ rfl);conv=>whnf)
end Go.Proofs.YtoikephldpcpgaaGreatDoor
namespace Go.Proofs.YtoikephldpcpgaaGreatDoor
open Go Go.RowKit
theorem ahG:([0,1,3]:List Nat).all (fun k=>!(Abs.gl k).isEmpty&&(Abs.gl k).all dOk&&Nat.beq ((Abs.gl k).map dV).length (Sim.cVs ((Abs.gl k).map dV)).length&&Nat.beq (Abs.gl k).length (Sim.cVs ((Abs.gl k).map dV)).length)=true:=by kernel_rfl
set_option maxRecDepth 100000 in
theorem alive_pure:Abs.Pure Tryz.prog 6 [] [.bool true]:=by
 have hgs:∀ k∈([0,1,3]:List Nat),(Abs.gl k≠[]∧(Abs.gl k).all dOk=true)∧((Abs.gl k).map dV).length=(Sim.cVs ((Abs.gl k).map dV)).length∧(Abs.gl k).length=(Sim.cVs ((Abs.gl k).map dV)).length:=fun k hk=>by
  have h:=List.all_eq_true.1 ahG k hk
  simp only [Bool.and_eq_true,Bool.not_eq_true',List.isEmpty_eq_false_iff] at h
  exact ⟨h.1.1,Nat.eq_of_beq_eq_true h.1.2,Nat.eq_of_beq_eq_true h.2⟩
 refine ⟨⟨_,Tryz.func6,by kernel_rfl,rfl⟩,fun ok w vs hgl hokb hsz hrd=>?_⟩
 obtain rfl:vs=#[]:=Array.eq_empty_of_size_eq_zero hsz
 refine (Sim.GX (T:=T) (ng:=7) (gs:=[0,1,3]) (F:=dA_root) (cs:=fun k=>Sim.cVs ((Abs.gl k).map dV)) (us:=fun k=>(Abs.gl k).map dV) (vs:=[]) YS (by kernel_rfl) (by decide) rfl rfl
  (fun g => .nil) (fun k hk=>?_) (fun k hk=>(hgs k hk).2.1) (fun k hk g i c u hc hu=>?_)).mono ?_
 ·obtain ⟨cur,t,fz,h1,h2,h3⟩:=GV (hgl k (hgs k hk).1.1) (hgs k hk).1.2 (hgs k hk).1.1
  exact ⟨cur,t,fz,h1,by rw [← (hgs k hk).2.2];exact h2,h3⟩
 ·rw [Sim.yT,hu] at hc
  cases hc
  refine ⟨Sim.J9 _ _ _,?_⟩
  obtain ⟨d,hd,rfl⟩:=List.mem_map.1 (List.mem_of_getElem? hu)
  exact (VE (ok:=fun _=>True) (w:=w) (List.all_eq_true.1 (hgs k hk).1.2 d hd)).2.1
 ·rintro e w' ⟨rfl,hb⟩
  exact ⟨_,rfl,⟨hb.os,hb.tape,hb.output,hb.size,fun b hb' _=>hb.block b hb',fun b c T fz hbc=>⟨c,(hb.block b (Array.getElem?_eq_some_iff.1 hbc).1).trans hbc,rfl,fun _ _=>rfl⟩⟩,.bool true⟩
open Go.ChangeShapes Go.WideShapes Go.ChangeAt
theorem KP {H:Type} {enc:TypeId×Value→H} {P:Program} {f:Func} {s:ChangeSpec} {apart fresh handsOn again:Bool} {W W':World} {args:Array Value} {v:Value} {ds gs:List (DataW H)} {before pa pv:List MemPlace}
  (hW:DataW.Whole enc P f.params.toList s.vars apart W args.toList ds gs before) (hb:Below W.heap.size W W')
  (hres:∀ (b:Nat) (sp:Nat→Bool) (hd:Bool),DataW.TrodAll enc P W' b sp hd f.resultTypes.toList (v.resultList f.resultTypes.size) (s.fn H (ds++gs)).results [])
  (hargs:∀ sp:Nat→Bool,(∀ p∈before,sp p.block=true)→DataW.TrodAll enc P W' 0 sp true f.params.toList args.toList (s.fn H (ds++gs)).args pa)
  (hvars:∀ sp:Nat→Bool,(∀ p∈before,sp p.block=true)→DataW.TrodVars enc P W' sp s.vars (s.fn H (ds++gs)).vars pv)
  (hps:before=pa++pv)
  (hok:∀ (j:Nat) (t:TypeId) (r:Value),f.resultTypes[j]?=some t→(v.resultList f.resultTypes.size)[j]?=some r→Value.okWide P W' .any 0 t r) :
  s.post enc P f apart fresh handsOn again W args v W':=by
 have hlt:∀ p∈before,p.block<W.heap.size:=fun p hp=>by simpa using hW.lt p hp
 have hd:∀ p∈before,(fun b=>decide (b<W.heap.size)) p.block=true:=fun p hp=>by simpa using hlt p hp
 have ht:∀ p∈before,(fun _:Nat=>true) p.block=true:=fun _ _=>rfl
 refine ⟨ds,gs,before,[],pa,pv,hW,hres _ _ _,hargs _ hd,hvars _ hd,hb.frame _,fun _=>⟨hok,(s.fn H (ds++gs)).results++(s.fn H (ds++gs)).args,(s.fn H (ds++gs)).vars,before,⟨pa,pv,trodAll_append (hargs _ ht) (hres _ _ _),hvars _ ht,hps,fun b off hp=>?_,?_⟩,fun p hp _=>hp⟩⟩
 ·obtain ⟨_,_,_,_,_,hz,_⟩:=hW
  exact (hb.frozen (hlt _ hp)).trans (hz b off hp)
 ·obtain ⟨_,_,_,_,_,_,hn⟩:=hW
  exact hn
theorem own:ownKnob Tryz.prog.godebug=none:=by kernel_rfl
theorem laidOut:laidOutB Tryz.prog=true:=by kernel_rfl
set_option maxRecDepth 100000 in
theorem contract (H:Type) (enc:TypeId×Value→H) (W:World) (args:Array Value) (ds gs:List (DataW H)) (before:List MemPlace) (base:Nat)
  (hval:∀ (j:Nat) t v,Tryz.f3.params[j]?=some t→args[j]?=some v→Value.okWide Tryz.prog W .any base t v)
  (hW:DataW.Whole enc Tryz.prog Tryz.f3.params.toList Rows.beliefTellsSpec.vars false W args.toList ds gs before) (hL:laidMetH Tryz.prog Rows.beliefTellsRow.laid W)
  (hz:(DataW.weightsEach Tryz.prog (Tryz.f3.params.toList++(OpenSpec.ofChange Rows.beliefTellsSpec).bare.plain.varTypes Tryz.prog) (ds++gs)).all (·≤reachBytes)=true) :
  Calls Tryz.prog 3 args W fun e W'=>∃ v,e = .returned v∧Rows.beliefTellsSpec.post enc Tryz.prog Tryz.f3 false true false false W args v W':=by
 have hW':=hW
 obtain ⟨p,q,hA0,hV,rfl,hfz,hnd⟩:=hW
 have hA:DataW.TrodAll enc Tryz.prog W 0 (fun _=>true) true Tryz.f3.params.toList args.toList ds p:=hA0
 rw [Tryz.params3] at hA hval hz
 obtain ⟨v0,vs0,d0,ds0,p0,q0,hargs,rfl,rfl,h0,r0⟩:=trodAll_cons hA
 obtain ⟨v1,vs1,d1,ds1,p1,q1,hargs1,rfl,rfl,h1,r1⟩:=trodAll_cons r0
 obtain ⟨rfl,rfl,rfl⟩:=trodAll_nil r1
 subst hargs1
 obtain rfl:args=#[v0,v1]:=by cases args;simp_all
 obtain ⟨rfl,rfl⟩:=trodVars_none hV
 clear hA0 hA
 obtain ⟨b,hb,hi,hlen⟩:=aeB (hval 0 22 v0 rfl rfl) h0
 obtain ⟨n,rfl⟩:=aeD (hval 1 3 v1 rfl rfl) h1
 have hbl:b.length*24≤140737488355328:=by
  rcases hlen with rfl | ⟨elems,spare,rfl,hle⟩
  ·decide
  ·have hs:=sized_slice hz (j:=0) (t:=22) rfl rfl Tryz.underlying22
   have k40:Tryz.prog.bytesOf 39=40:=by kernel_rfl
   have kr:reachBytes=140737488351232:=rfl
   rw [k40,kr] at hs
   omega
 refine ((Tryz.tells alive_pure b n hbl hi).calls (fun b=>b<W.heap.size) W #[v0,.int .i64 n] (gok hL) (fun _ h=>h) rfl (fun i u d' hu hd=>?_)).mono fun e W' ⟨v,he,hf,hr⟩=>?_
 ·match i with
  | 0=>simp at hu hd;subst hu;subst hd;exact hb
  | 1=>simp at hu hd;subst hu;subst hd;exact .int _ _
  | i+2=>simp at hu
 have hg:Below W.heap.size W W':=⟨hf.os,hf.tape,hf.output,hf.size,fun b hb=>hf.jK b hb⟩
 subst he
 have hv:v = .bool true:=by cases hr;rfl
 subst hv
 have hlt:∀ x∈p0++(p1++[])++[],x.block<W.heap.size:=fun x hx=>by simpa using hW'.lt x hx
 refine ⟨_,rfl,KP (pa:=p0++(p1++[])) (pv:=[]) hW' hg (fun _ _ _=>trodAll_cons_mk (shut_bool Tryz.underlying4 _) trodAll_mk0) (fun sp hs=>?_) (fun _ _=>rfl) rfl (ok_one (by kernel_rfl) rfl (okWide_bool_mk Tryz.underlying4 _))⟩
 have e0:=WideElems.Trod_stays (sp':=sp) (W':=W') laidOut (by kernel_rfl) (of_decide_eq_true (by kernel_rfl)) h0 (fun x hx=>hg.same (hlt x (by simp [hx]))) (fun x hx=>hs x (by simp [hx]))
 have e1:=WideElems.Trod_stays (sp':=sp) (W':=W') laidOut (by kernel_rfl) (of_decide_eq_true (by kernel_rfl)) h1 (fun x hx=>hg.same (hlt x (by simp [hx]))) (fun x hx=>hs x (by simp [hx]))
 exact trodAll_cons_mk e0 (trodAll_cons_mk e1 trodAll_mk0)
end Go.Proofs.YtoikephldpcpgaaGreatDoor
namespace Go.Proofs.YtoikephldpcpgaaGreatDoor
open Go Go.RowKit Go.ChangeShapes Go.WideShapes Go.ChangeAt
theorem band {a b:Bool} (h:a=true) (k:b=true):(a&&b)=true:=by rw [h,k];rfl
theorem j_inPlace:(Rows.beliefTellsRow.inPlace==Tryz.pinned.checked.prog.inPlace 3)=true:=by kernel_rfl
theorem j_unf:(Rows.beliefTellsRow.unfollowed==Tryz.pinned.checked.prog.unfollowed 3)=true:=by kernel_rfl
theorem j_rec:(Rows.beliefTellsRow.recurses==Tryz.pinned.checked.prog.recurses 3)=true:=by kernel_rfl
theorem j_named:(Rows.beliefTellsRow.named==Tryz.pinned.checked.prog.varsNamed 3)=true:=by kernel_rfl
theorem j_lift:(Rows.beliefTellsRow.lifted==Tryz.pinned.checked.prog.liftsFinal)=true:=by kernel_rfl
theorem UH:joinedFacts Tryz.pinned.checked.prog 3 Tryz.f3 (OpenSpec.ofChange Rows.beliefTellsSpec).bare Rows.beliefTellsRow=true:=by
 unfold joinedFacts
 exact band (band (band (band (band (band (band (band (band (band (band (band (band (band (band (band (band (band (band (band (band (band (band (by kernel_rfl) j_inPlace) j_unf) j_rec) j_named) (by kernel_rfl)) (by kernel_rfl)) (by kernel_rfl)) (by kernel_rfl)) (by kernel_rfl)) (by kernel_rfl)) (by kernel_rfl)) (by kernel_rfl)) (by kernel_rfl)) (by kernel_rfl)) (by kernel_rfl)) (by kernel_rfl)) (by kernel_rfl)) j_lift) (by kernel_rfl)) (by kernel_rfl)) (by kernel_rfl)) (by kernel_rfl)) (by kernel_rfl)
end Go.Proofs.YtoikephldpcpgaaGreatDoor
namespace Go.Proofs.YtoikephldpcpgaaGreatDoor
open Go Go.RowKit Go.ChangeShapes Go.WideShapes Go.ChangeAt
def intRow {H:Type} (d:DataW H):List Value:=match d with
 | .lit l=>[Q7 l]
 | _=>[]
def intCells (d:DataW Unit):List Value:=match d with
 | .agg ds=>ds.flatMap intRow
 | _=>[]
def ae2 (cs:List Value):Obj→Obj
 | .cells _ t frozen => .cells cs.toArray t frozen
 | o=>o
noncomputable def laidWorld (os:Os):World:=
 {World.holding Tryz.prog os ⟨#[],#[],[]⟩ with heap:=([(0,[.int .i64 1,.int .i64 1]),(1,[.int .i64 0,.int .i64 1]),(3,FP),(4,intCells Rows.laid_internal_strconv_uint64pow10),(5,intCells Rows.laid_math_bits_deBruijn32tab),(6,intCells Rows.laid_math_bits_deBruijn64tab)]:List (Nat×List Value)).foldl (fun h p=>h.modify p.1 (ae2 p.2)) (World.holding Tryz.prog os ⟨#[],#[],[]⟩).heap }
set_option maxRecDepth 100000 in
theorem laid_met (os:Os):laidMet Tryz.prog Rows.beliefTellsRow.laid ((laidWorld os).forCall (fun _ _=>0) ⟨#[],#[.slice none 0 0,.int .i64 0],[]⟩).memory:=
 laidMet_of_run' 8 (by kernel_rfl) (by kernel_rfl)
theorem reads (os:Os) {H:Type} (enc:TypeId×Value→H):∃ places,DataW.whole enc Tryz.prog ((laidWorld os).forCall (fun _ _=>0) ⟨#[],#[.slice none 0 0,.int .i64 0],[]⟩).memory Tryz.f3.params.toList Rows.beliefTellsSpec.vars false #[Value.slice none 0 0,Value.int .i64 0].toList 8=some ([.nil,.lit (.int .i64 0)],[],places):=
 ⟨[],by kernel_rfl⟩
set_option maxRecDepth 100000 in
theorem lifted (os:Os) (started:os.Started) (H:Type) (enc:TypeId×Value→H) (F:Stop.Interp) :
  ReturnsInHanded {} Tryz.checked os 3 .any ((OpenSpec.ofChange Rows.beliefTellsSpec).preRow enc Tryz.prog Tryz.f3 Rows.beliefTellsRow.domain false Rows.beliefTellsRow.laid) (((OpenSpec.ofChange Rows.beliefTellsSpec).at F).post enc Tryz.prog Tryz.f3 false true false false):=by
 obtain ⟨places,hx⟩:=reads os enc
 refine returnsInHanded_of_row (C:=Tryz.checked) (s:=OpenSpec.ofChange Rows.beliefTellsSpec) own started (by kernel_rfl) Tryz.func3
  (witness_row_at (enc:=enc) (C:=Tryz.checked) false (laidWorld os) #[.slice none 0 0,.int .i64 0] rfl (by kernel_rfl) (by kernel_rfl) (by kernel_rfl)
   (OpenSpec.preRow_of_cond 8 hx (by kernel_rfl) (fun k hk=>by cases hk) (by kernel_rfl) (laid_met os))) ?_
 intro W base args ds gs before hval hW _ _ hz hL _ _
 exact contract H enc W args ds gs before base hval hW hL hz
set_option maxRecDepth 100000 in
theorem said:Rows.BeliefTellsSaid:=
 OpenClaim.holds_of_cond 3 Tryz.f3 rfl rfl rfl rfl rfl rfl rfl ⟨rfl,rfl,rfl,rfl,rfl⟩ rfl rfl rfl rfl rfl (by kernel_rfl) Tryz.func3 UH
  (of_decide_eq_true (by kernel_rfl)) (by unfold Func.isWrapper;first | (rw [if_pos (by decide +kernel)];kernel_rfl) | (rw [if_neg (by decide +kernel)];exact ⟨rfl,rfl⟩))
  (fun os started H enc _ F=>by rw [OpenClaim.pre_eq_preRow];exact lifted os started H enc F)
theorem plain (f:FuncId) (fn:Func) (hf:Tryz.pinned.checked.prog.funcNamed "gameplayer/gameplayerlaw41.BeliefTells" = some f) (hfn:Tryz.pinned.checked.prog.funcs[f]?=some fn) :
  false=Tryz.pinned.checked.prog.looks []∧∀ (j:Nat) t,fn.params[j]?=some t→Tryz.pinned.checked.prog.wantsStandIn t=false:=by
 obtain rfl:f=3:=Option.some.inj ((show Tryz.prog.funcNamed "gameplayer/gameplayerlaw41.BeliefTells" = some 3 by kernel_rfl).symm.trans hf) |>.symm
 obtain rfl:fn=Tryz.f3:=(Option.some.inj (Tryz.func3.symm.trans hfn)).symm
 refine ⟨by kernel_rfl,fun j t ht=>?_⟩
 rw [Tryz.params3] at ht
 have ht':t=22∨t=3:=by simpa using Array.mem_of_getElem? ht
 rcases ht' with rfl | rfl
 ·exact (show Tryz.prog.wantsStandIn 22=false by kernel_rfl)
 ·exact (show Tryz.prog.wantsStandIn 3=false by kernel_rfl)
set_option maxRecDepth 100000 in
theorem card:Rows.BeliefTellsCardSaid:=
 Claim7.holds_tied_plain_at .later [] _ _ _ _ said (fun _ h=>by cases h) (by kernel_rfl) (fun _ h=>by cases h) beliefTells_row_tie rfl ⟨rfl,rfl⟩ (by kernel_rfl) rfl plain (by kernel_rfl)
#print axioms card
end Go.Proofs.YtoikephldpcpgaaGreatDoor
