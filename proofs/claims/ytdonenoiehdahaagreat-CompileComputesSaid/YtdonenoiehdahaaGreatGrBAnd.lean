/- Walks: the reference's own groups. -/
import Derived.Test.YtdonenoiehdahaaGreatTmRAnd
set_option linter.all false
namespace Go.Proofs.YtdonenoiehdahaaGreat
open Go Go.Abs Go.Own
attribute [local irreducible] WP
noncomputable def uO (atoms:List Tm) (rules:List Gr):List D:=match aK atoms rules with
 | true=>dH (aQ (bg atoms.length (aA atoms.length rules)) atoms.length)
 | false=>[]
def vH (d:List (List Bool)) (l:List Bool) (i k:Nat):Bool:=(List.range k).all (fH d l i)
theorem lH (d:List (List Bool)) (l:List Bool) (i k:Nat):vH d l i (k+1)=(vH d l i k&&fH d l i k):=by
 unfold vH;rw [List.range_succ,List.all_append];simp
theorem QI (d:List (List Bool)) (i k:Nat):(iW d i k).length≤k:=by
 have:=List.length_filter_le (dF d i) (List.range k)
 rwa [List.length_range] at this
set_option maxRecDepth 10000 in
theorem Tryz.Vp (atoms:List Tm) (rules:List Gr) (hok:∀ x∈atoms,okT x) (hn:atoms.length≤64) (hr:rules.length≤128) (hf:∀ r∈rules,r.2.1.length+r.2.2.length≤16) :
  Pure Tryz.prog 13 [gD atoms rules] [.list (uO atoms rules)]:=by
 have hfit:zJ rules:=fun r h=>by have:=hf r h;omega
 unfold uO;refine Pure.of_wp hT (nt:=_) (c:=_) Tryz.func13 rfl rfl rfl rfl (by kernel_rfl) ?_;intro w0 ok0 β0;repeat (refine gw rfl ?_;conv=>whnf)
 refine .inl ⟨_,Tryz.BD atoms rules hok hfit,.inl rfl,?_⟩;conv=>whnf
 cases hv:aK atoms rules with
 | false=>
   (conv=>whnf);repeat (refine gw rfl ?_;conv=>whnf)
 | true=>
   (conv=>whnf);(repeat (refine gw rfl ?_;conv=>whnf));refine .inl ⟨_,Tryz.Qy atoms rules (eP hv) hn hr hf,.inl rfl,?_⟩;(conv=>whnf);obtain ⟨n,hnn⟩:∃ n,atoms.length=n:=⟨_,rfl⟩
   rw [hnn] at hn ⊢;generalize hD:bg n (aA n rules)=d;have hsq:Square n d:=hD ▸ tZ n (aA n rules);(repeat (refine gw rfl ?_;conv=>whnf));rw [List.length_map,hnn];refine ⟨⟨by omega,by omega,by omega,by show ((1:Nat):Int)*(n:Int)≤281474976710656;omega⟩,?_⟩;rw [Int.toNat_natCast];(conv=>whnf);refine ⟨rfl,?_⟩;(conv=>whnf);rw [show List.replicate n (D.bool false)=(List.replicate n false).map D.bool by simp];(repeat (refine gw rfl ?_;conv=>whnf));refine WP.loop (α:=GSt) (fun x=>⟨[(3,.d (enM d)),(4,.d (.int .i64 n)),(5,.sl 23 1 0 n),(6,.sl 6 1 0 x.out.length)],[((23,0),some (.arr 1 (x.l.map D.bool))),((6,0),some (.arr 1 (dH x.out)))],[23,6]⟩)
    (fun x=>GOk d n x∧x.a=0) (fun x=>dA x.l) ⟨List.replicate n false,[],0,n+1,0⟩ [(23,some 23),(6,none)] [] ?_ ?_ ?_
   ·((conv=>whnf);repeat (first | exact ⟨⟩ | (refine ⟨by first | rfl | (simp;done) | (simp;omega),?_⟩;conv=>whnf)))
   ·exact ⟨⟨by simp,by simp only [dn];omega,rfl,fun c hc=>by simp only at hc;omega,Nat.zero_le _,by simp [dn]⟩,rfl⟩
   ·rintro ⟨l0,out0,a0,k0,_⟩ ⟨⟨hl0,hfu0,hrun0,hbe0,hle0,hcnt0⟩,ha0⟩;dsimp only at hl0 hfu0 hrun0 hbe0 hle0 hcnt0 ha0 ⊢;(repeat (refine gw rfl ?_;conv=>whnf));refine WP.loop (α:=GSt×Bool×Nat) (fun y=>⟨[(3,.d (enM d)),(4,.d (.int .i64 n)),(5,.sl 23 1 0 n),(6,.sl 6 1 0 y.1.out.length),(7,.d (.bool y.2.1)),(8,.d (.int .i64 y.2.2))],[((23,0),some (.arr 1 (y.1.l.map D.bool))),((6,0),some (.arr 1 (dH y.1.out)))],[23,6]⟩)
     (fun y=>GOk d n y.1∧y.2.2≤n∧(match y.2.1 with | false=>y.1.a=y.2.2∧y.1.l=l0 | true=>y.1.a=0∧dA y.1.l<dA l0)) (fun y=>n-y.2.2) (⟨l0,out0,0,k0,0⟩,false,0) [(23,some 23),(6,some 6)] [] ?_ ?_ ?_
    ·((conv=>whnf);repeat (first | exact ⟨⟩ | (refine ⟨by first | rfl | (simp;done) | (simp;omega),?_⟩;conv=>whnf)))
    ·exact ⟨⟨hl0,hfu0,hrun0,fun c hc=>by simp only at hc;omega,Nat.zero_le _,hcnt0⟩,Nat.zero_le _,rfl,rfl⟩
    ·rintro ⟨⟨l,out,a,k,_⟩,fd,i⟩ ⟨⟨hl,hfu,hrun,hbe,hle,hcnt⟩,hin,hfd⟩;dsimp only at hl hfu hrun hbe hle hcnt hin hfd ⊢;(repeat (refine gw rfl ?_;conv=>whnf));cases hlt':decide (((i:Nat):Int)<((n:Nat):Int)) with
     | false=>
       have:i=n:=(by simp at hlt';omega);subst this;(conv=>whnf);cases fd with
       | false=>
         obtain ⟨rfl,rfl⟩:=hfd;rw [GL (by omega) hbe] at hrun;(repeat (refine gw rfl ?_;conv=>whnf));refine ⟨_,by rw [List.drop_zero,List.take_of_length_le (by simp [dH])],by simp [dH],?_⟩;(conv=>whnf);rw [hrun]
       | true=>
         obtain ⟨rfl,hlt2⟩:=hfd;(repeat (refine gw rfl ?_;conv=>whnf));refine ⟨⟨l,out,0,k,0⟩,[(23,some 23),(6,some 6)],[],?_,⟨⟨hl,hfu,hrun,fun c hc=>by simp only at hc;omega,Nat.zero_le _,hcnt⟩,rfl⟩,hlt2⟩;((conv=>whnf);repeat (first | exact ⟨⟩ | (refine ⟨by first | rfl | (simp;done) | (simp;omega),?_⟩;conv=>whnf)))
     | true=>
       have hlt:i<n:=(by simpa using hlt');(conv=>whnf);cases fd with
       | true=>
         obtain ⟨rfl,hlt2⟩:=hfd;(conv=>whnf);(repeat (refine gw rfl ?_;conv=>whnf));refine ⟨⟨l,out,0,k,0⟩,[(23,some 23),(6,some 6)],[],?_,⟨⟨hl,hfu,hrun,fun c hc=>by simp only at hc;omega,Nat.zero_le _,hcnt⟩,rfl⟩,hlt2⟩;((conv=>whnf);repeat (first | exact ⟨⟩ | (refine ⟨by first | rfl | (simp;done) | (simp;omega),?_⟩;conv=>whnf)))
       | false=>
         obtain ⟨rfl,rfl⟩:=hfd;(conv=>whnf);(repeat (refine gw rfl ?_;conv=>whnf));refine ⟨by omega,?_⟩;rw [Int.toNat_natCast];(conv=>whnf);refine ⟨_,by rw [Nat.zero_add,← Int.toNat_natCast a];exact He (by omega),?_⟩;(conv=>whnf);refine W7 ?_ rfl;(conv=>whnf);cases hla:jI l a with
         | true=>
           have hc:lD d n l a=false:=(by unfold lD;rw [hla];rfl);(conv=>whnf);(repeat (refine gw rfl ?_;conv=>whnf));refine ⟨by omega,?_⟩;(conv=>whnf);refine ⟨(⟨l,out,a+1,k,0⟩,false,a+1),[(23,some 23),(6,some 6)],[],?_,⟨⟨hl,hfu,hrun,fun c h=>?_,by dsimp only;omega,hcnt⟩,by dsimp only;omega,rfl,rfl⟩,by dsimp only;omega⟩
           ·((conv=>whnf);repeat (first | exact ⟨⟩ | (refine ⟨by first | rfl | (simp;done) | (simp;omega),?_⟩;conv=>whnf)))
           ·dsimp only at h;rcases Nat.lt_or_ge c a with h1 | h1
            ·exact hbe c h1
            ·rw [show c=a by omega];exact hc
         | false=>
           (conv=>whnf);repeat (refine gw rfl ?_;conv=>whnf)
           refine WP.loop (α:=Nat) (fun kk=>⟨[(3,.d (enM d)),(4,.d (.int .i64 n)),(5,.sl 23 1 0 n),(6,.sl 6 1 0 out.length),(7,.d (.bool false)),(8,.d (.int .i64 a)),(9,.sl 9 1 0 (iW d a kk).length),(10,.d (.bool (vH d l a kk))),(11,.d (.int .i64 kk))],
             [((23,0),some (.arr 1 (l.map D.bool))),((6,0),some (.arr 1 (dH out))),((9,0),some (.arr 1 ((iW d a kk).map enN)))],[23,6,9]⟩)
            (fun kk=>kk≤n) (fun kk=>n-kk) 0 [(23,some 23),(6,some 6),(9,none)] [] ?_ ?_ ?_
           ·((conv=>whnf);repeat (first | exact ⟨⟩ | (refine ⟨by first | rfl | (simp;done) | (simp;omega),?_⟩;conv=>whnf)))
           ·exact Nat.zero_le _
           ·intro kk hkk;(repeat (refine gw rfl ?_;conv=>whnf));(split<;>rename_i hb<;>(try rw [hb])<;>(conv=>whnf))
            ·have hkl:kk<n:=(by simpa using hb);clear hb;have hgl:=QI d a kk;(repeat (refine gw rfl ?_;conv=>whnf));by_cases e:a=kk
             ·have hs:dF d a kk=true:=(by unfold dF;simp [e]);rw [show (((kk:Nat):Int)==((a:Nat):Int))=true by simp [e]];(conv=>whnf);(repeat (refine gw rfl ?_;conv=>whnf));refine ⟨rfl,?_⟩;(conv=>whnf);refine ⟨_,by rw [List.drop_zero,List.take_of_length_le (by simp)],by simp,?_⟩;(conv=>whnf);refine ⟨_,rfl,Nat.le_refl _,?_⟩;(conv=>whnf);refine ⟨by show (_+1)*8≤_;rw [List.length_map];omega,?_⟩;(conv=>whnf);(repeat (refine gw rfl ?_;conv=>whnf));refine ⟨by omega,_,hsq.at hlt,rfl,?_⟩;(conv=>whnf);refine ⟨by omega,_,hsq.at2 hlt hkl,rfl,?_⟩;(conv=>whnf);cases h1:dAt d a kk with
              | false=>
                (conv=>whnf);(repeat (refine gw rfl ?_;conv=>whnf));refine ⟨by omega,?_⟩;(conv=>whnf);refine ⟨kk+1,[(23,some 23),(6,some 6),(9,some 68)],[],?_,by omega,by omega⟩;have hg:iW d a (kk+1)=iW d a kk++[kk]:=(by rw [gQ,if_pos hs]);have hr2:vH d l a (kk+1)=vH d l a kk:=(by rw [lH,show fH d l a kk=true by unfold fH;rw [hs];rfl,Bool.and_true]);rw [hg,hr2,List.map_append,show List.map enN [kk]=[D.int .i64 (kk:Nat)] from rfl];((conv=>whnf);repeat (first | exact ⟨⟩ | (refine ⟨by first | rfl | (simp;done) | (simp;omega),?_⟩;conv=>whnf)))
              | true=>
                (conv=>whnf);(repeat (refine gw rfl ?_;conv=>whnf));refine ⟨by omega,?_⟩;(conv=>whnf);refine ⟨kk+1,[(23,some 23),(6,some 6),(9,some 68)],[],?_,by omega,by omega⟩;have hg:iW d a (kk+1)=iW d a kk++[kk]:=(by rw [gQ,if_pos hs]);have hr2:vH d l a (kk+1)=vH d l a kk:=(by rw [lH,show fH d l a kk=true by unfold fH;rw [hs];rfl,Bool.and_true]);rw [hg,hr2,List.map_append,show List.map enN [kk]=[D.int .i64 (kk:Nat)] from rfl];((conv=>whnf);repeat (first | exact ⟨⟩ | (refine ⟨by first | rfl | (simp;done) | (simp;omega),?_⟩;conv=>whnf)))
             ·rw [show (((kk:Nat):Int)==((a:Nat):Int))=false from decide_eq_false (by omega)];(conv=>whnf);refine ⟨by omega,_,hsq.at hlt,rfl,?_⟩;(conv=>whnf);refine ⟨by omega,_,hsq.at2 hlt hkl,rfl,?_⟩;(conv=>whnf);cases h1:dAt d a kk with
              | false=>
                have hs:dF d a kk=false:=(by unfold dF;simp [e,h1]);have hfi:fH d l a kk=true:=(by unfold fH;simp [h1]);(conv=>whnf);(repeat (refine gw rfl ?_;conv=>whnf));refine ⟨by omega,_,hsq.at hlt,rfl,?_⟩;(conv=>whnf);refine ⟨by omega,_,hsq.at2 hlt hkl,rfl,?_⟩;(conv=>whnf);rw [h1];(conv=>whnf);(repeat (refine gw rfl ?_;conv=>whnf));refine ⟨by omega,?_⟩;(conv=>whnf);refine ⟨kk+1,[(23,some 23),(6,some 6),(9,some 9)],[],?_,by omega,by omega⟩;have hg:iW d a (kk+1)=iW d a kk:=(by rw [gQ,hs];rfl);have hr2:vH d l a (kk+1)=vH d l a kk:=(by rw [lH,hfi];simp);rw [hg,hr2];((conv=>whnf);repeat (first | exact ⟨⟩ | (refine ⟨by first | rfl | (simp;done) | (simp;omega),?_⟩;conv=>whnf)))
              | true=>
                (conv=>whnf);refine ⟨by omega,_,hsq.at hkl,rfl,?_⟩;(conv=>whnf);refine ⟨by omega,_,hsq.at2 hkl hlt,rfl,?_⟩;(conv=>whnf);cases h2:dAt d kk a with
                | true=>
                  have hs:dF d a kk=true:=(by unfold dF;simp [h1,h2]);(conv=>whnf);(repeat (refine gw rfl ?_;conv=>whnf));refine ⟨rfl,?_⟩;(conv=>whnf);refine ⟨_,by rw [List.drop_zero,List.take_of_length_le (by simp)],by simp,?_⟩;(conv=>whnf);refine ⟨_,rfl,Nat.le_refl _,?_⟩;(conv=>whnf);refine ⟨by show (_+1)*8≤_;rw [List.length_map];omega,?_⟩;(conv=>whnf);(repeat (refine gw rfl ?_;conv=>whnf));refine ⟨by omega,_,hsq.at hlt,rfl,?_⟩;(conv=>whnf);refine ⟨by omega,_,hsq.at2 hlt hkl,rfl,?_⟩;(conv=>whnf);rw [h1];(conv=>whnf);(repeat (refine gw rfl ?_;conv=>whnf));refine ⟨by omega,?_⟩;(conv=>whnf);refine ⟨kk+1,[(23,some 23),(6,some 6),(9,some 68)],[],?_,by omega,by omega⟩;have hg:iW d a (kk+1)=iW d a kk++[kk]:=(by rw [gQ,if_pos hs]);have hr2:vH d l a (kk+1)=vH d l a kk:=(by rw [lH,show fH d l a kk=true by unfold fH;rw [hs];rfl,Bool.and_true]);rw [hg,hr2,List.map_append,show List.map enN [kk]=[D.int .i64 (kk:Nat)] from rfl];((conv=>whnf);repeat (first | exact ⟨⟩ | (refine ⟨by first | rfl | (simp;done) | (simp;omega),?_⟩;conv=>whnf)))
                | false=>
                  have hs:dF d a kk=false:=(by unfold dF;simp [e,h2]);(conv=>whnf);(repeat (refine gw rfl ?_;conv=>whnf));refine ⟨by omega,_,hsq.at hlt,rfl,?_⟩;(conv=>whnf);refine ⟨by omega,_,hsq.at2 hlt hkl,rfl,?_⟩;(conv=>whnf);rw [h1];(conv=>whnf);refine ⟨by omega,?_⟩;(conv=>whnf);refine ⟨_,by rw [Nat.zero_add];exact He (by omega),?_⟩;(conv=>whnf);cases h3:jI l kk with
                  | true=>
                    have hfi:fH d l a kk=true:=(by unfold fH;simp [h3]);(conv=>whnf);(repeat (refine gw rfl ?_;conv=>whnf));refine ⟨by omega,?_⟩;(conv=>whnf);refine ⟨kk+1,[(23,some 23),(6,some 6),(9,some 9)],[],?_,by omega,by omega⟩;have hg:iW d a (kk+1)=iW d a kk:=(by rw [gQ,hs];rfl);have hr2:vH d l a (kk+1)=vH d l a kk:=(by rw [lH,hfi];simp);rw [hg,hr2];((conv=>whnf);repeat (first | exact ⟨⟩ | (refine ⟨by first | rfl | (simp;done) | (simp;omega),?_⟩;conv=>whnf)))
                  | false=>
                    have hfi:fH d l a kk=false:=(by unfold fH;simp [hs,h1,h3]);(conv=>whnf);(repeat (refine gw rfl ?_;conv=>whnf));refine ⟨by omega,?_⟩;(conv=>whnf);refine ⟨kk+1,[(23,some 23),(6,some 6),(9,some 9)],[],?_,by omega,by omega⟩;have hg:iW d a (kk+1)=iW d a kk:=(by rw [gQ,hs];rfl);have hr2:vH d l a (kk+1)=false:=(by rw [lH,hfi];simp);rw [hg,hr2];((conv=>whnf);repeat (first | exact ⟨⟩ | (refine ⟨by first | rfl | (simp;done) | (simp;omega),?_⟩;conv=>whnf)))
            ·have:kk=n:=(by simp at hb;omega);subst this;clear hb;(repeat (refine gw rfl ?_;conv=>whnf));have hrd:vH d l a kk=oz d kk l a:=rfl;have hgg:iW d a kk=grp d kk a:=rfl;rw [hrd,hgg];cases hrdy:oz d kk l a with
             | false=>
               have hc:lD d kk l a=false:=(by unfold lD;rw [hla,hrdy];rfl);(conv=>whnf);(repeat (refine gw rfl ?_;conv=>whnf));refine ⟨by omega,?_⟩;(conv=>whnf);refine ⟨(⟨l,out,a+1,k,0⟩,false,a+1),[(23,some 23),(6,some 6)],[],?_,⟨⟨hl,hfu,hrun,fun c h=>?_,by dsimp only;omega,hcnt⟩,by dsimp only;omega,rfl,rfl⟩,by dsimp only;omega⟩
               ·((conv=>whnf);repeat (first | exact ⟨⟩ | (refine ⟨by first | rfl | (simp;done) | (simp;omega),?_⟩;conv=>whnf)))
               ·dsimp only at h;rcases Nat.lt_or_ge c a with h1 | h1
                ·exact hbe c h1
                ·rw [show c=a by omega];exact hc
             | true=>
               have hc:lD d kk l a=true:=(by unfold lD;rw [hla,hrdy];rfl);(conv=>whnf);repeat (refine gw rfl ?_;conv=>whnf)
               refine WP.loop (α:=Nat) (fun j=>⟨[(3,.d (enM d)),(4,.d (.int .i64 kk)),(5,.sl 23 1 0 kk),(6,.sl 6 1 0 out.length),(7,.d (.bool false)),(8,.d (.int .i64 a)),(9,.d (.list ((grp d kk a).map enN))),(13,.d (.int .i64 j))],
                 [((23,0),some (.arr 1 ((bM l ((grp d kk a).take j)).map D.bool))),((6,0),some (.arr 1 (dH out)))],[23,6]⟩)
                (fun j=>j≤(grp d kk a).length) (fun j=>(grp d kk a).length-j) 0 [(23,some 23),(6,some 6)] [9] ?_ ?_ ?_
               ·((conv=>whnf);repeat (first | exact ⟨⟩ | (refine ⟨by first | rfl | (simp;done) | (simp;omega),?_⟩;conv=>whnf)));refine ⟨(grp d kk a).map enN,by rw [List.drop_zero,List.take_of_length_le (by simp)],by simp,rfl,?_⟩;((conv=>whnf);repeat (first | exact ⟨⟩ | (refine ⟨by first | rfl | (simp;done) | (simp;omega),?_⟩;conv=>whnf)))
               ·exact Nat.zero_le _
               ·intro j hj;(repeat (refine gw rfl ?_;conv=>whnf));rw [List.length_map];(split<;>rename_i hb<;>(try rw [hb])<;>(conv=>whnf))
                ·have hig:j<(grp d kk a).length:=(by simpa using hb);clear hb;have hxn:(grp d kk a)[j]<kk:=(cO.1 (List.getElem_mem hig)).1;have hgl2:=QI d a kk;have hgl3:(grp d kk a).length≤kk:=hgl2;(repeat (refine gw rfl ?_;conv=>whnf));refine ⟨by omega,_,ay hig,rfl,?_⟩;(conv=>whnf);refine ⟨⟨by omega,by omega⟩,?_⟩;(conv=>whnf);refine ⟨rfl,_,by rw [Nat.zero_add];exact He (by rw [fG];omega),?_⟩;(conv=>whnf);refine .inl ⟨rfl,rfl,?_⟩;(conv=>whnf);(repeat (refine gw rfl ?_;conv=>whnf));refine ⟨by omega,?_⟩;(conv=>whnf);refine ⟨j+1,[(23,some 23),(6,some 6)],[],?_,by omega,by omega⟩;rw [show ((bM l ((grp d kk a).take j)).map D.bool).set (0+((((grp d kk a)[j]:Nat):Int)).toNat) (D.bool true)=(bM l ((grp d kk a).take (j+1))).map D.bool by rw [xZ hig,List.map_set];simp];((conv=>whnf);repeat (first | exact ⟨⟩ | (refine ⟨by first | rfl | (simp;done) | (simp;omega),?_⟩;conv=>whnf)))
                ·have:j=(grp d kk a).length:=(by simp at hb;omega);subst this;clear hb;rw [List.take_length];have hga:a∈grp d kk a:=cO.2 ⟨hlt,by simp [dF]⟩;have hla':l[a]?=some false:=by
                  have:=hla;unfold jI at this;rw [List.getElem?_eq_getElem (by omega)] at this ⊢
                  simpa using this
                 have hmk:=gZ (grp d kk a) l a hga hla';(repeat (refine gw rfl ?_;conv=>whnf));refine ⟨rfl,?_⟩;(conv=>whnf);refine ⟨_,by rw [List.drop_zero,List.take_of_length_le (by simp [dH])],by simp [dH],?_⟩;(conv=>whnf);refine ⟨_,rfl,Nat.le_refl _,?_⟩;(conv=>whnf);refine ⟨by show (_+1)*24≤_;simp only [dH,List.length_map];omega,?_⟩;(conv=>whnf);rw [show (dH out).length+(List.take [D.list ((grp d kk a).map enN)].length (List.drop 0 [D.list ((grp d kk a).map enN)])).length=(out++[grp d kk a]).length by simp [dH],show dH out++List.take [D.list ((grp d kk a).map enN)].length (List.drop 0 [D.list ((grp d kk a).map enN)])=dH (out++[grp d kk a]) by simp [dH]];(repeat (refine gw rfl ?_;conv=>whnf));refine ⟨by omega,?_⟩;(conv=>whnf);obtain ⟨k',rfl⟩:∃ k',k=k'+1:=⟨k-1,by omega⟩
                 rw [GH hlt hc hbe] at hrun;refine ⟨(⟨bM l (grp d kk a),out++[grp d kk a],0,k',0⟩,true,a+1),[(23,some 23),(6,some 103)],[],?_,⟨⟨by rw [fG];exact hl,by dsimp only;omega,hrun,fun c h=>by dsimp only at h;omega,Nat.zero_le _,by dsimp only;rw [List.length_append];simp only [List.length_singleton];omega⟩,by dsimp only;omega,rfl,by dsimp only;omega⟩,by dsimp only;omega⟩;((conv=>whnf);repeat (first | exact ⟨⟩ | (refine ⟨by first | rfl | (simp;done) | (simp;omega),?_⟩;conv=>whnf)))
theorem Tryz.SX (atoms:List Tm) (rules:List Gr) (hok:∀ x∈atoms,okT x) (hn:atoms.length≤64) (hr:rules.length≤128) (hf:∀ r∈rules,r.2.1.length+r.2.2.length≤16) :
  Pure Tryz.prog 12 [gD atoms rules] [.list (uO atoms rules)]:=by
 have hfit:zJ rules:=fun r h=>by have:=hf r h;omega
 unfold uO;cases hv:aK atoms rules with
 | true=>exact Tryz.groups atoms rules hok hv hn hr hf
 | false=>
   refine Pure.of_wp hT (nt:=_) (c:=_) Tryz.func12 rfl rfl rfl rfl (by kernel_rfl) ?_;intro w0 ok0 β0;(repeat (refine gw rfl ?_;conv=>whnf));refine .inl ⟨_,Tryz.Ce atoms rules hok hfit,.inl rfl,?_⟩;rw [hv];(conv=>whnf);repeat (refine gw rfl ?_;conv=>whnf)
theorem QW (g:List Nat):g.map enN=(g.map fun k=>((k:Nat):Int)).map enI:=by rw [List.map_map];rfl
theorem Tryz.Sv (G:List (List Nat)) (hG:G.length≤1000000) (hg:∀ g∈G,g.length≤1000000) :
  Pure Tryz.prog 11 [.list (dH G),.list (dH G)] [.bool true]:=by
 refine Pure.of_wp hT (nt:=_) (c:=_) Tryz.func11 rfl rfl rfl rfl (by kernel_rfl) ?_;intro w0 ok0 β0;repeat (refine gw rfl ?_;conv=>whnf)
 rw [show (((dH G).length:Int) != ((dH G).length:Int))=false by simp];conv=>whnf
 repeat (refine gw rfl ?_;conv=>whnf)
 refine WP.loop (α:=Nat) (fun i=>⟨[(0,.d (.list (dH G))),(1,.d (.list (dH G))),(12,.d (.int .i64 G.length)),(13,.d (.int .i64 i))],[],[]⟩) (fun i=>i≤G.length) (fun i=>G.length-i) 0 [] [] ?_ ?_ ?_
 ·rw [show ((dH G).length:Int)=(G.length:Nat) by simp [dH]];((conv=>whnf);repeat (first | exact ⟨⟩ | (refine ⟨by first | rfl | (simp;done) | (simp;omega),?_⟩;conv=>whnf)))
 ·exact Nat.zero_le _
 ·intro i hi;repeat (refine gw rfl ?_;conv=>whnf)
  (split<;>rename_i hb<;>(try rw [hb])<;>(conv=>whnf))
  ·have hlt:i<G.length:=(by simpa using hb);clear hb;have hgi:=hg G[i] (List.getElem_mem hlt);have hat:(dH G)[((i:Nat):Int).toNat]?=some (.list (G[i].map enN)):=ay (f:=fun (g:List Nat)=>D.list (g.map enN)) hlt;have hsame:=Tryz.ints (G[i].map fun k=>((k:Nat):Int)) (G[i].map fun k=>((k:Nat):Int)) (by simpa using hgi) (by simpa using hgi);rw [← QW,beq_self_eq_true] at hsame;(repeat (refine gw rfl ?_;conv=>whnf));refine ⟨by omega,_,hat,rfl,?_⟩;(conv=>whnf);refine ⟨by omega,_,hat,rfl,?_⟩;(conv=>whnf);refine .inl ⟨_,hsame,.inl rfl,?_⟩;(conv=>whnf);(repeat (refine gw rfl ?_;conv=>whnf));refine ⟨by omega,?_⟩;(conv=>whnf);refine ⟨i+1,[],[],?_,by omega,by omega⟩;((conv=>whnf);repeat (first | exact ⟨⟩ | (refine ⟨by first | rfl | (simp;done) | (simp;omega),?_⟩;conv=>whnf)))
  ·clear hb;repeat (refine gw rfl ?_;conv=>whnf)
def eH (rules:List Gr) (a i:Nat):Bool:=(rules[i]?).any fun r=>decide (r.1=((a:Nat):Int))
def aI (rules:List Gr) (a i:Nat):List Int:=((List.range i).filter (eH rules a)).map fun k=>((k:Nat):Int)
def hdM (n:Nat) (rules:List Gr) (i:Nat):List (List Int):=(List.range n).map fun a=>aI rules a i
theorem qE (n:Nat) (rules:List Gr) (i:Nat):(hdM n rules i).length=n:=by simp [hdM]
theorem Vk (n:Nat) (rules:List Gr):List.replicate n ([]:List D)=dU (hdM n rules 0):=by
 refine List.ext_getElem (by simp [dU,hdM]) fun i h1 h2=>by simp [dU,hdM,aI]
theorem JE {n:Nat} {rules:List Gr} {i a:Nat} (h:a<n):(dU (hdM n rules i))[a]?=some ((aI rules a i).map enI):=by
 unfold dU hdM;rw [List.getElem?_map,List.getElem?_map,List.getElem?_range h];rfl
theorem yB (rules:List Gr) (a i:Nat):(aI rules a i).length≤i:=by
 unfold aI;rw [List.length_map];have:=List.length_filter_le (eH rules a) (List.range i)
 rwa [List.length_range] at this
theorem OZ (rules:List Gr) (a i:Nat):aI rules a (i+1)=if eH rules a i then aI rules a i++[((i:Nat):Int)] else aI rules a i:=by
 unfold aI;rw [List.range_succ,List.filter_append,List.map_append];by_cases h:eH rules a i=true
 ·simp [h]
 ·simp [h]
theorem Vl {n:Nat} {rules:List Gr} {i:Nat} (hi:i<rules.length) (h0:0≤rules[i].1) (hn:rules[i].1<n) :
  (dU (hdM n rules i)).set rules[i].1.toNat ((aI rules rules[i].1.toNat i).map enI++[D.int .i64 ((i:Nat):Int)])=dU (hdM n rules (i+1)):=by
 refine List.ext_getElem? fun a=>?_
 by_cases ha:a<n
 ·rw [JE ha,OZ];have hat:eH rules a i=decide (rules[i].1=((a:Nat):Int)):=by unfold eH;rw [List.getElem?_eq_getElem hi];rfl
  by_cases e:rules[i].1.toNat=a
  ·rw [← e,List.getElem?_set_self (by rw [fZ,qE];omega)];rw [e,hat,show decide (rules[i].1=((a:Nat):Int))=true from decide_eq_true (by omega)];simp [enI]
  ·rw [List.getElem?_set_ne e,JE ha,hat,show decide (rules[i].1=((a:Nat):Int))=false from decide_eq_false (by omega)];rfl
 ·rw [List.getElem?_eq_none (by rw [List.length_set,fZ,qE];omega),List.getElem?_eq_none (by rw [fZ,qE];omega)]
theorem Tryz.heads (atoms:List Tm) (rules:List Gr) (hi':dZ atoms.length rules) (hn:atoms.length≤64) (hr:rules.length≤128) :
  Pure Tryz.prog 32 [gD atoms rules] [.list ((hdM atoms.length rules rules.length).map fun r => .list (r.map enI))]:=by
 obtain ⟨n,hnn⟩:∃ n,atoms.length=n:=⟨_,rfl⟩
 rw [hnn] at hi' hn ⊢;refine Pure.of_wp hT (nt:=_) (c:=_) Tryz.func32 rfl rfl rfl rfl (by kernel_rfl) ?_;intro w0 ok0 β0;refine W1 ?_;refine W2 hT hM [] ?_;conv=>whnf
 refine W1 ?_;refine W2 hT hM [9] ?_;conv=>whnf
 rw [List.length_map,hnn];refine ⟨⟨by omega,by omega,by omega,by show ((24:Nat):Int)*(n:Int)≤281474976710656;omega⟩,?_⟩;rw [Int.toNat_natCast,Vk n rules];conv=>whnf
 repeat (refine gw rfl ?_;conv=>whnf)
 refine WP.loop (α:=Nat) (fun i=>⟨[(3,.rsl 9 n),(11,.d (.list (rules.map enG))),(12,.d (.int .i64 rules.length)),(13,.d (.int .i64 i))],[((9,0),some (.rows 1 (dU (hdM n rules i)) none))],[9]⟩)
  (fun i=>i≤rules.length) (fun i=>rules.length-i) 0 [(9,some 9)] [] ?_ ?_ ?_
 ·((conv=>whnf);repeat (first | exact ⟨⟩ | (refine ⟨by first | rfl | (simp;done) | (simp;omega),?_⟩;conv=>whnf)))
 ·exact Nat.zero_le _
 ·intro i hi;repeat (refine gw rfl ?_;conv=>whnf)
  (split<;>rename_i hb<;>(try rw [hb])<;>(conv=>whnf))
  ·have hlt:i<rules.length:=(by simpa using hb);clear hb;have hm:=hi'.head rules[i] (List.getElem_mem hlt);have hle:=yB rules rules[i].1.toNat i;(repeat (refine gw rfl ?_;conv=>whnf));refine ⟨by omega,_,ay hlt,rfl,?_⟩;(conv=>whnf);(repeat (refine gw rfl ?_;conv=>whnf));refine ⟨by omega,?_⟩;(conv=>whnf);refine ⟨_,JE (by omega),?_⟩;(conv=>whnf);refine ⟨rfl,?_⟩;(conv=>whnf);refine ⟨_,by rw [List.drop_zero,List.take_length],by omega,?_⟩;(conv=>whnf);refine ⟨_,rfl,Nat.le_refl _,?_⟩;(conv=>whnf);refine ⟨by show (_+1)*8≤_;rw [List.length_map];omega,?_⟩;(conv=>whnf);refine ⟨by omega,?_⟩;(conv=>whnf);refine ⟨⟨by rw [fZ,qE];omega,rfl⟩,(aI rules rules[i].1.toNat i).map enI++[D.int .i64 ((i:Nat):Int)],by rw [List.drop_zero];exact List.take_of_length_le (by simp),by simp,?_⟩;(conv=>whnf);rw [Vl hlt hm.1 hm.2];(repeat (refine gw rfl ?_;conv=>whnf));refine ⟨by omega,?_⟩;(conv=>whnf);refine ⟨i+1,[(9,some 9)],[],?_,by omega,by omega⟩;((conv=>whnf);repeat (first | exact ⟨⟩ | (refine ⟨by first | rfl | (simp;done) | (simp;omega),?_⟩;conv=>whnf)))
  ·have:i=rules.length:=(by simp at hb;omega);subst this;clear hb;(repeat (refine gw rfl ?_;conv=>whnf));rw [CZ]
theorem wrap_u64 (n:Nat) (h:n<18446744073709551616):IntKind.u64.wrap (n:Int)=n:=by
 have:(n:Int) % 18446744073709551616=n:=by omega
 simp [IntKind.wrap,IntKind.bits,IntKind.signed,this]
theorem Vm (n:Nat):((n:Int)).fdiv (2 ^ min (Int.toNat 1) IntKind.u64.bits)=((n / 2:Nat):Int):=by
 show Int.fdiv (n:Int) 2=_;rw [Int.fdiv_eq_ediv_of_nonneg _ (by decide)];omega
theorem Q5 (x:Int):∀ {l:List Int},l.Pairwise (·<·)→∃ k,k≤l.length∧(∀ i (h:i<l.length),i<k→l[i]<x)∧∀ i (h:i<l.length),k≤i→¬ l[i]<x
 | [],_=>⟨0,Nat.le_refl _,fun i h=>by simp at h,fun i h=>by simp at h⟩
 | y::l,hp=>by
   obtain ⟨hy,hl⟩:=List.pairwise_cons.1 hp;by_cases hyx:y<x
   ·obtain ⟨k,h1,h2,h3⟩:=Q5 x hl;refine ⟨k+1,by simp;omega,fun i h hi=>?_,fun i h hi=>?_⟩
    ·cases i with
     | zero=>exact hyx
     | succ i=>exact h2 i (by simpa using h) (by omega)
    ·cases i with
     | zero=>omega
     | succ i=>exact h3 i (by simpa using h) (by omega)
   ·refine ⟨0,Nat.zero_le _,fun i _ hi=>by omega,fun i h _=>?_⟩;cases i with
    | zero=>exact hyx
    | succ i=>
      have hi:i<l.length:=(by simpa using h);have:=hy l[i] (List.getElem_mem hi);simp only [List.getElem_cons_succ];omega
theorem X3 {x:Int} {l:List Int} (hp:l.Pairwise (·<·)) {k:Nat} (h1:∀ i (h:i<l.length),i<k→l[i]<x) (h2:∀ i (h:i<l.length),k≤i→¬ l[i]<x):x∈l↔l[k]?=some x:=by
 constructor
 ·intro hx;obtain ⟨i,hi,rfl⟩:=List.mem_iff_getElem.1 hx;rcases Nat.lt_trichotomy i k with h | h | h
  ·have:=h1 i hi h;omega
  ·rw [← h,List.getElem?_eq_getElem hi]
  ·have a:=h2 k (by omega) (Nat.le_refl _);have b:=List.pairwise_iff_getElem.1 hp k i (by omega) hi h;omega
 ·exact fun h=>List.mem_of_getElem? h
theorem Tryz.ZW (a b:Int):Pure Tryz.prog 116 [.int .i64 a,.int .i64 b] [.bool (decide (a<b))]:=by
 refine Pure.of_wp hT (nt:=_) (c:=_) Tryz.func116 rfl rfl rfl rfl (by kernel_rfl) ?_;intro w0 ok0 β0;repeat (refine gw rfl ?_;conv=>whnf)
 refine .inl ⟨_,Tryz.zA a,.inl rfl,?_⟩;conv=>whnf
 repeat (refine gw rfl ?_;conv=>whnf)
theorem Tryz.Jz (a:Int):Pure Tryz.prog 117 [.int .i64 a] [.bool false]:=by
 refine Pure.of_wp hT (nt:=_) (c:=_) Tryz.func117 rfl rfl rfl rfl (by kernel_rfl) ?_;intro w0 ok0 β0;repeat (refine gw rfl ?_;conv=>whnf)
 simp
theorem Tryz.bsI (l:List Int) (x:Int) (hl:l.length≤1000000) (hp:l.Pairwise (·<·)):∃ k:Int,Pure Tryz.prog 77 [.list (l.map enI),.int .i64 x] [.int .i64 k,.bool (decide (x∈l))]:=by
 obtain ⟨k,hk,h1,h2⟩:=Q5 x hp;refine ⟨k,?_⟩;have hmem:=X3 hp h1 h2;refine Pure.of_wp hT (nt:=_) (c:=_) Tryz.func77 rfl rfl rfl rfl (by kernel_rfl) ?_;intro w0 ok0 β0;repeat (refine gw rfl ?_;conv=>whnf)
 refine WP.loop (α:=Nat×Nat) (fun s=>⟨[(0,.d (.list (l.map enI))),(1,.d (.int .i64 x)),(6,.d (.int .i64 l.length)),(7,.d (.int .i64 s.1)),(8,.d (.int .i64 s.2))],[],[]⟩)
  (fun s=>s.1≤k∧k≤s.2∧s.2≤l.length) (fun s=>s.2-s.1) (0,l.length) [] [] ?_ ?_ ?_
 ·((conv=>whnf);repeat (first | exact ⟨⟩ | (refine ⟨by first | rfl | (simp;done) | (simp;omega),?_⟩;conv=>whnf)))
 ·simp;omega
 ·rintro ⟨i,j⟩ ⟨q1,q2,q3⟩;simp only at q1 q2 q3;repeat (refine gw rfl ?_;conv=>whnf)
  (split<;>rename_i hb<;>(try rw [hb])<;>(conv=>whnf))
  ·have hlt:i<j:=(by simpa using hb);clear hb;(repeat (refine gw rfl ?_;conv=>whnf));refine ⟨by omega,?_⟩;(conv=>whnf);(repeat (refine gw rfl ?_;conv=>whnf));rw [show (((i,j).fst:Nat):Int)+(((i,j).snd:Nat):Int)=((i+j:Nat):Int) from rfl,wrap_u64 _ (by omega)];refine ⟨by omega,?_⟩;(conv=>whnf);(repeat (refine gw rfl ?_;conv=>whnf));rw [Vm];refine ⟨by omega,?_⟩;(conv=>whnf);(repeat (refine gw rfl ?_;conv=>whnf));have hh:(i+j) / 2<l.length:=(by omega);refine ⟨by omega,_,ay hh,rfl,?_⟩;(conv=>whnf);refine .inl ⟨_,Tryz.ZW _ _,.inl rfl,?_⟩;(conv=>whnf);(repeat (refine gw rfl ?_;conv=>whnf));(split<;>rename_i hb<;>(try rw [hb])<;>(conv=>whnf))
   ·have hc:l[(i+j) / 2]<x:=(by simpa using hb);have hk':(i+j) / 2<k:=by
     rcases Nat.lt_or_ge ((i+j) / 2) k with h | h
     ·exact h
     ·exact absurd hc (h2 _ hh h)
    (repeat (refine gw rfl ?_;conv=>whnf));refine ⟨by omega,?_⟩;(conv=>whnf);(repeat (refine gw rfl ?_;conv=>whnf));refine ⟨((i+j) / 2+1,j),[],[],?_,⟨by simp only;omega,by simp only;omega,by simp only;omega⟩,by simp only;omega⟩;((conv=>whnf);repeat (first | exact ⟨⟩ | (refine ⟨by first | rfl | (simp;done) | (simp;omega),?_⟩;conv=>whnf)))
   ·have hc:¬ l[(i+j) / 2]<x:=(by simpa using hb);have hk':k≤(i+j) / 2:=by
     rcases Nat.lt_or_ge ((i+j) / 2) k with h | h
     ·exact absurd (h1 _ hh h) hc
     ·exact h
    (repeat (refine gw rfl ?_;conv=>whnf));refine ⟨(i,(i+j) / 2),[],[],?_,⟨by simp only;omega,by simp only;omega,by simp only;omega⟩,by simp only;omega⟩;((conv=>whnf);repeat (first | exact ⟨⟩ | (refine ⟨by first | rfl | (simp;done) | (simp;omega),?_⟩;conv=>whnf)))
  ·have e1:i=k:=(by simp at hb;omega);have e2:j=k:=(by simp at hb;omega);subst e1;subst e2;clear hb;(repeat (refine gw rfl ?_;conv=>whnf));(split<;>rename_i hb<;>(try rw [hb])<;>(conv=>whnf))
   ·have hlt:j<l.length:=(by simpa using hb);rw [List.getElem?_eq_getElem hlt] at hmem;refine ⟨by omega,_,ay hlt,rfl,?_⟩;(conv=>whnf);by_cases e:l[j]=x
    ·rw [show (l[j]==x)=true by simp [e]];(conv=>whnf);(repeat (refine gw rfl ?_;conv=>whnf));rw [decide_eq_true (hmem.2 (by rw [e]))]
    ·rw [show (l[j]==x)=false by simpa using e];(conv=>whnf);refine ⟨by omega,_,ay hlt,rfl,?_⟩;(conv=>whnf);refine .inl ⟨_,Tryz.Jz _,.inl rfl,?_⟩;(conv=>whnf);(repeat (refine gw rfl ?_;conv=>whnf));rw [decide_eq_false (fun h=>e (Option.some.inj (hmem.1 h)))]
   ·have hge:¬ j<l.length:=(by simpa using hb);rw [List.getElem?_eq_none (by omega)] at hmem;(repeat (refine gw rfl ?_;conv=>whnf));rw [decide_eq_false (fun h=>by cases hmem.1 h)]
def zS (h:Int) (g:List Nat):Nat:=(g.filter fun a=>decide (h=((a:Nat):Int))).length
def yP (rules:List Gr) (g:List Nat):Nat:=(rules.map fun r=>zS r.1 g).sum
theorem IB (h:Int) (g:List Nat) {k:Nat} (hk:k<g.length):zS h (g.take (k+1))=zS h (g.take k)+if h=((g[k]:Nat):Int) then 1 else 0:=by
 unfold zS;rw [List.take_succ_eq_append_getElem hk,List.filter_append,List.length_append];congr 1;by_cases e:h=((g[k]:Nat):Int)
 ·simp [e]
 ·simp [e]
theorem TD (rules:List Gr) (g:List Nat) {i:Nat} (hi:i<rules.length):yP (rules.take (i+1)) g=yP (rules.take i) g+zS rules[i].1 g:=by
 unfold yP;rw [List.take_succ_eq_append_getElem hi,List.map_append,List.sum_append];simp
theorem Q7 (h:Int) (g:List Nat):zS h g≤g.length:=List.length_filter_le _ _
theorem X6 (rules:List Gr) (g:List Nat):yP rules g≤rules.length*g.length:=by
 unfold yP
 induction rules with
 | nil=>simp
 | cons r l ih=>
   have:=Q7 r.1 g;rw [List.map_cons,List.sum_cons,List.length_cons,Nat.succ_mul];omega
theorem Tryz.XG (atoms:List Tm) (rules:List Gr) (g:List Nat) (hg:g.length≤64) (hr:rules.length≤128) :
  Pure Tryz.prog 39 [gD atoms rules,.list (g.map enN)] [.int .i64 (yP rules g:Nat)]:=by
 have hmx:∀ i,yP (rules.take i) g≤8192:=fun i=>by
  have h1:=X6 (rules.take i) g;have h2:(rules.take i).length*g.length≤128*64:=Nat.mul_le_mul (by rw [List.length_take];omega) hg;omega
 refine Pure.of_wp hT (nt:=_) (c:=_) Tryz.func39 rfl rfl rfl rfl (by kernel_rfl) ?_;intro w0 ok0 β0;repeat (refine gw rfl ?_;conv=>whnf)
 refine WP.loop (α:=Nat) (fun i=>⟨[(1,.d (.list (g.map enN))),(2,.d (.ref [.list (atoms.map enT),.list (rules.map enG)] 0)),(5,.d (.int .i64 (yP (rules.take i) g:Nat))),(6,.d (.int .i64 i))],[],[]⟩)
  (fun i=>i≤rules.length) (fun i=>rules.length-i) 0 [] [] ?_ ?_ ?_
 ·((conv=>whnf);repeat (first | exact ⟨⟩ | (refine ⟨by first | rfl | (simp;done) | (simp;omega),?_⟩;conv=>whnf)))
 ·exact Nat.zero_le _
 ·intro i hi;have hm1:=hmx i;repeat (refine gw rfl ?_;conv=>whnf)
  rw [List.length_map];(split<;>rename_i hb<;>(try rw [hb])<;>(conv=>whnf))
  ·have hlt:i<rules.length:=(by simpa using hb);clear hb;(repeat (refine gw rfl ?_;conv=>whnf));refine WP.loop (α:=Nat) (fun k=>⟨[(1,.d (.list (g.map enN))),(2,.d (.ref [.list (atoms.map enT),.list (rules.map enG)] 0)),(5,.d (.int .i64 ((yP (rules.take i) g+zS rules[i].1 (g.take k):Nat):Int))),(6,.d (.int .i64 i)),(7,.d (.int .i64 k))],[],[]⟩)
    (fun k=>k≤g.length) (fun k=>g.length-k) 0 [] [] ?_ ?_ ?_
   ·((conv=>whnf);repeat (first | exact ⟨⟩ | (refine ⟨by first | rfl | (simp;done) | (simp;omega),?_⟩;conv=>whnf)))
   ·exact Nat.zero_le _
   ·intro k hk;have hck:=Q7 rules[i].1 (g.take k);rw [List.length_take] at hck;(repeat (refine gw rfl ?_;conv=>whnf));rw [List.length_map];(split<;>rename_i hb<;>(try rw [hb])<;>(conv=>whnf))
    ·have hkl:k<g.length:=(by simpa using hb);clear hb;(repeat (refine gw rfl ?_;conv=>whnf));refine ⟨by omega,_,ay hlt,rfl,?_⟩;(conv=>whnf);refine ⟨by omega,_,ay hkl,rfl,?_⟩;(conv=>whnf);(repeat (refine gw rfl ?_;conv=>whnf));by_cases e:rules[i].1=((g[k]:Nat):Int)
     ·have hs:=IB rules[i].1 g hkl;rw [if_pos e] at hs;rw [show (rules[i].1==((g[k]:Nat):Int))=true by simpa using e];(conv=>whnf);(repeat (refine gw rfl ?_;conv=>whnf));refine ⟨by omega,?_⟩;(conv=>whnf);(repeat (refine gw rfl ?_;conv=>whnf));refine ⟨by omega,?_⟩;(conv=>whnf);refine ⟨k+1,[],[],?_,by omega,by omega⟩;rw [hs];((conv=>whnf);repeat (first | exact ⟨⟩ | (refine ⟨by first | rfl | (simp;done) | (simp;omega),?_⟩;conv=>whnf)))
     ·have hs:=IB rules[i].1 g hkl;rw [if_neg e] at hs;rw [show (rules[i].1==((g[k]:Nat):Int))=false by simpa using e];(conv=>whnf);(repeat (refine gw rfl ?_;conv=>whnf));refine ⟨by omega,?_⟩;(conv=>whnf);refine ⟨k+1,[],[],?_,by omega,by omega⟩;rw [hs,Nat.add_zero];((conv=>whnf);repeat (first | exact ⟨⟩ | (refine ⟨by first | rfl | (simp;done) | (simp;omega),?_⟩;conv=>whnf)))
    ·have:k=g.length:=(by simp at hb;omega);subst this;clear hb;rw [List.take_length,← TD rules g hlt];(repeat (refine gw rfl ?_;conv=>whnf));refine ⟨by omega,?_⟩;(conv=>whnf);refine ⟨i+1,[],[],?_,by omega,by omega⟩;((conv=>whnf);repeat (first | exact ⟨⟩ | (refine ⟨by first | rfl | (simp;done) | (simp;omega),?_⟩;conv=>whnf)))
  ·have:i=rules.length:=(by simp at hb;omega);subst this;rw [List.take_length];clear hb;repeat (refine gw rfl ?_;conv=>whnf)
end Go.Proofs.YtdonenoiehdahaaGreat
namespace Go.Proofs.YtdonenoiehdahaaGreat
open Go Go.Abs Go.Own Go.RowKit
attribute [local irreducible] WP
theorem Tryz.VY (l:List Int) (hl:l.length≤1000000) :
  aH Tryz.prog 76 [] [.d (.list (l.map enI))] [] [1] [.sl 1 1 0 l.length] [((1,0),.arr 1 (l.map enI))]:=by
 refine ⟨⟨_,Tryz.func76,by kernel_rfl,rfl⟩,fun k r h=>?_,fun β ok w vs hgl hokb hsz has hpre hsep hinj=>?_⟩
 ·simp only [List.mem_cons,Prod.mk.injEq,List.not_mem_nil,or_false] at h;rw [h.2];rfl
 obtain ⟨v0,rfl⟩:∃ v0,vs=#[v0]:=by
  have h3:vs.size=1:=hsz;exact ⟨vs[0],by apply Array.ext (by simpa using h3);intro i h1 h2;match i,h2 with | 0,_=>rfl⟩
 have h0:=(has 0 v0 _ rfl rfl).fB;have hone:∀ (i:Nat) x (j:Nat) c,(l.map enI)[i]?=some x→x.cells[j]?=some c→∃ y,l[i]?=some y∧j=0∧c = .int .i64 y:=fun i x j c hx hc=>by
  simp only [List.getElem?_map,Option.map_eq_some_iff] at hx;obtain ⟨y,hy,rfl⟩:=hx;cases j with
  | zero=>simp [enI,D.cells] at hc;exact ⟨y,hy,rfl,hc.symm⟩
  | succ j=>simp [enI,D.cells] at hc
 have fin:∀ (v':Value) (w':World),Below w.heap.size w w'→(v' = .slice none 0 0∧l.length=0∨∃ g cap cur T,v' = .slice (some ⟨g,0,none⟩) l.length cap∧w.heap.size≤g∧w'.heap[g]?=some (.cells cur T (0,0))∧l.length≤cap∧cap≤maxLen∧cap*1≤cur.size∧cur.toList.take (l.length*1)=l.map (Value.int .i64)) →
   ∃ v β' ok',Ending.returned v' = .returned v∧(∀ i,i∈([]:List Nat)→β' i=β i)∧RdV β' (fun i=>i∈([]:List Nat)∨i∈[1]) ok' w' v (resV [.sl 1 1 0 l.length]) ∧
   (∀ k r,(k,r)∈[(((1,0):Key),Res.arr 1 (l.map enI))]→(k.1∈([]:List Nat)∨k.1∈[1])∧Own β' (fun i=>i∈([]:List Nat)∨i∈[1]) ok' w' k r) ∧
   (∀ k r b,(k,r)∈[(((1,0):Key),Res.arr 1 (l.map enI))]→aB (β' k.1)=some b→¬ ok' b∧b<w'.heap.size∧(b<w.heap.size→match r with | .cell _=>k.1∈([]:List Nat)∧jV β [] b k.2 | _=>∀ o,jV β [] b o)) ∧
   (∀ k k' r r' b,(k,r)∈[(((1,0):Key),Res.arr 1 (l.map enI))]→(k',r')∈[(((1,0):Key),Res.arr 1 (l.map enI))]→aB (β' k.1)=some b→aB (β' k'.1)=some b→k.1=k'.1) ∧
   (∀ b,ok' b→b<w'.heap.size)∧(∀ b,ok b→ok' b)∧(∀ b,ok' b→ok b∨w.heap.size≤b∨∀ o,jV β [] b o)∧Abs.Frame (jV β []) w w':=by
  intro v' w' hb hv;have hβ1:ghost β 1 v' 1=v':=aJ _ _ _;have hg:∀ b,aB v'=some b→w.heap.size≤b∧b<w'.heap.size:=fun b hbv=>by
   rcases hv with ⟨rfl,_⟩ | ⟨g,cap,cur,T,rfl,h1,h2,_⟩
   ·cases hbv
   ·cases cap<;>simp [aB] at hbv;subst hbv;exact ⟨h1,(Array.getElem?_eq_some_iff.1 h2).1⟩
  refine ⟨v',ghost β 1 v',ok,rfl,(fun i hi=>by cases hi),?_,fun k r hm=>?_,fun k r b hm hbk=>?_,fun k k' r r' b hm hm' hbk hbk'=>?_,fun b hb'=>Nat.lt_of_lt_of_le (hokb b hb') hb.size,fun b h=>h,fun b h => .inl h,
   ⟨hb.os,hb.tape,hb.output,hb.size,fun b hb' _=>hb.block b hb',fun b c T fz hbc=>⟨c,(hb.block b (Array.getElem?_eq_some_iff.1 hbc).1).trans hbc,rfl,fun _ _=>rfl⟩⟩⟩
  ·show RdV _ _ _ _ v' (.sl 1 1 0 l.length);rcases hv with ⟨e,h2⟩ | ⟨g,cap,cur,T,e,h1,h2,h3,h4,_⟩
   ·rw [h2];have:=RdV.sl (β:=ghost β 1 v') (u:=fun i=>i∈([]:List Nat)∨i∈[1]) (ok:=ok) (w:=w') 1 1 0 0 0 0 none none (.inr (by simp)) (hβ1.trans e) (by omega) (by simp [maxLen]) (fun h=>by omega);rw [Nat.sub_zero,← e] at this;exact this
   ·have:=RdV.sl (β:=ghost β 1 v') (u:=fun i=>i∈([]:List Nat)∨i∈[1]) (ok:=ok) (w:=w') 1 1 0 l.length l.length cap (some ⟨g,0,none⟩) (some ⟨g,0,none⟩) (.inr (by simp)) (hβ1.trans e) (by omega) h4 (fun _=>⟨g,0,rfl,by simp⟩);rw [Nat.sub_zero,← e] at this;exact this
  ·simp only [List.mem_cons,Prod.mk.injEq,List.not_mem_nil,or_false] at hm;obtain ⟨rfl,rfl⟩:=hm;refine ⟨.inr (by simp),rfl,?_⟩;show bT ok w' (ghost β 1 v' 1) 1 _;rw [hβ1];rcases hv with ⟨e,h2⟩ | ⟨g,cap,cur,T,e,h1,h2,h3,h4,h5,h6⟩
   ·obtain rfl:l=[]:=List.length_eq_zero_iff.1 h2;exact ⟨none,0,e,by simp,by simp [maxLen],by decide,fun i x hx=>by simp at hx,fun h=>by omega⟩
   ·refine ⟨_,cap,by rw [List.length_map];exact e,by rw [List.length_map];exact h3,h4,by decide,fun i x hx=>?_,fun _=>⟨g,0,cur,T,rfl,h2,by omega,fun i x j c hx hc=>?_⟩⟩
    ·simp only [List.getElem?_map,Option.map_eq_some_iff] at hx;obtain ⟨y,_,rfl⟩:=hx;rfl
    ·obtain ⟨y,hy,rfl,rfl⟩:=hone i x j c hx hc;have hi:=(List.getElem?_eq_some_iff.1 hy).1;have:(cur.toList.take (l.length*1))[i]?=some (.int .i64 y):=(by rw [h6,List.getElem?_map,hy];rfl);rw [List.getElem?_take_of_lt (by omega)] at this;exact ⟨.int .i64 y,by simpa using this,.int _ _,rfl,rfl⟩
  ·simp only [List.mem_cons,Prod.mk.injEq,List.not_mem_nil,or_false] at hm;obtain ⟨rfl,rfl⟩:=hm;simp only [hβ1] at hbk;obtain ⟨s1,s2⟩:=hg b hbk;exact ⟨fun h=>by have:=hokb b h;omega,s2,fun h=>by omega⟩
  ·simp only [List.mem_cons,Prod.mk.injEq,List.not_mem_nil,or_false] at hm hm';rw [hm.1,hm'.1]
 have own:∀ {w':World} {v':Value},w'.ownsRow w.heap.size 3 1 v' l.length (l.map (Value.int .i64))→(v' = .slice none 0 0∧l.length=0∨∃ g cap cur T,v' = .slice (some ⟨g,0,none⟩) l.length cap∧w.heap.size≤g∧w'.heap[g]?=some (.cells cur T (0,0))∧l.length≤cap∧cap≤maxLen∧cap*1≤cur.size∧cur.toList.take (l.length*1)=l.map (Value.int .i64)):=by
  rintro w' v' ⟨_,⟨rfl,h2⟩ | ⟨g,cap,cur,rfl,h1,h2,h3,h4,h5,h6⟩⟩
  ·exact .inl ⟨rfl,h2⟩
  ·exact .inr ⟨g,cap,cur,_,rfl,h1,h2,h3,h4,by omega,h6⟩
 generalize hx:l.map enI=xs at h0;cases h0 with
 | lC a=>
   have hl0:l.length=0:=(by have:=congrArg List.length hx;simpa using this);obtain rfl:l=[]:=List.length_eq_zero_iff.1 hl0;cases a with
   | none=>
     refine (Any.slices_Clone_int_nil Tryz.cloI 0 0 w).mono ?_;rintro e w' ⟨rfl,rfl⟩;exact fin _ _ (Below.refl _ _) (.inl ⟨rfl,rfl⟩)
   | some a=>
     refine (Any.slices_Clone_int_zero Tryz.cloI a 0 w).mono ?_;rintro e w' ⟨v',rfl,ho,_,hb⟩;exact fin _ _ hb (own ho)
 | lst a cap sz _ us h1 h2 h3 h4 h5 h6 h7 h8=>
   subst hx;obtain ⟨b,o,s⟩:=a;have hs:s=none:=h2;subst hs;have hcell:∀ j,j<l.length→w.cell? ⟨b,o+j,none⟩=some (.int .i64 (l.getD j 0)):=fun j hj=>by
    have hx:(l.map enI)[j]?=some (enI l[j]):=(by simp [hj]);have e1:sz=1:=(h6 j _ hx).symm;subst e1;have hv:=(h7 j _ 0 (enI l[j]) hx rfl).1;have hr:=h8 j _ 0 (enI l[j]) hx rfl;have:us j 0 = .int .i64 l[j]:=(by generalize us j 0=u at hr;cases hr;rfl);rw [this] at hv;have e2:l.getD j 0=l[j]:=(by simp [List.getD,hj]);rw [e2,← hv];simp
   rw [List.length_map];refine (Any.slices_Clone_int Tryz.cloI b o l.length cap l w (Nat.le_refl _) (by omega) hcell).mono ?_;rintro e w' ⟨v',rfl,ho,_,hb⟩;rw [List.take_length] at ho;exact fin _ _ hb (own ho)
end Go.Proofs.YtdonenoiehdahaaGreat
namespace Go.Proofs.YtdonenoiehdahaaGreat
open Go Go.Abs Go.Own
attribute [local irreducible] WP
def P6 (rules:List Gr) (g:List Nat):Prop:=∃ a∈g,∃ i,i<rules.length∧eH rules a i=true∧∃ r,rules[i]?=some r∧∃ b∈r.2.1++r.2.2,b∈g.map fun k=>((k:Nat):Int)
noncomputable def xU (rules:List Gr) (g:List Nat):Bool:=@decide (P6 rules g) (Classical.propDecidable _)
theorem Jf {rules:List Gr} {g:List Nat} (h:P6 rules g):xU rules g=true:=(@decide_eq_true_iff _ (Classical.propDecidable _)).2 h
theorem Oy {rules:List Gr} {g:List Nat} (h:¬ P6 rules g):xU rules g=false:=by
 unfold xU;exact (@decide_eq_false_iff_not _ (Classical.propDecidable _)).2 h
theorem SG {rules:List Gr} {a:Nat} {n k:Nat} (h:k<(aI rules a n).length):∃ i,i<n∧eH rules a i=true∧(aI rules a n)[k]=((i:Nat):Int):=by
 have hm:(aI rules a n)[k]∈aI rules a n:=List.getElem_mem h;unfold aI at hm;obtain ⟨i,hi,he⟩:=List.mem_map.1 hm;obtain ⟨h1,h2⟩:=List.mem_filter.1 hi;exact ⟨i,List.mem_range.1 h1,h2,he.symm⟩
theorem SQ {rules:List Gr} {a n i:Nat} (hi:i<n) (h:eH rules a i=true):∃ k,k<(aI rules a n).length∧(aI rules a n)[k]?=some ((i:Nat):Int):=by
 have hm:((i:Nat):Int)∈aI rules a n:=List.mem_map.2 ⟨i,List.mem_filter.2 ⟨List.mem_range.2 hi,h⟩,rfl⟩;obtain ⟨k,hk,he⟩:=List.mem_iff_getElem.1 hm;exact ⟨k,hk,by rw [List.getElem?_eq_getElem hk,he]⟩
theorem Vj {n:Nat} {rules:List Gr} {i a:Nat} (h:a<n):((hdM n rules i).map fun r=>D.list (r.map enI))[((a:Nat):Int).toNat]?=some (.list ((aI rules a i).map enI)):=by
 unfold hdM;rw [Int.toNat_natCast,List.getElem?_map,List.getElem?_map,List.getElem?_range h];rfl
theorem Tryz.recursive (atoms:List Tm) (rules:List Gr) (n:Nat) (g:List Nat) (hn:n≤64) (hr:rules.length≤128) (hg:g.Pairwise (·<·)) (hlt:∀ x∈g,x<n) (hgl:g.length≤64) (hf:∀ r∈rules,r.2.1.length+r.2.2.length≤16) :
  Pure Tryz.prog 33 [gD atoms rules,.list ((hdM n rules rules.length).map fun r => .list (r.map enI)),.list (g.map enN)] [.bool (xU rules g)]:=by
 have hgi:(g.map fun k=>((k:Nat):Int)).Pairwise (·<·):=by
  rw [List.pairwise_map];exact hg.imp fun h=>by omega
 have hcell:∀ (l:List Int) (y:D),y∈l.map enI→y.cells.length=1:=fun l y hy=>by
  obtain ⟨x,_,rfl⟩:=List.mem_map.1 hy;rfl
 refine Pure.of_wp hT (nt:=_) (c:=_) Tryz.func33 rfl rfl rfl rfl (by kernel_rfl) ?_;intro w0 ok0 β0;repeat (refine gw rfl ?_;conv=>whnf)
 refine WP.loop (α:=Nat) (fun j=>⟨[(1,.d (.list ((hdM n rules rules.length).map fun r => .list (r.map enI)))),(2,.d (.list (g.map enN))),(3,.d (.ref [.list (atoms.map enT),.list (rules.map enG)] 0)),(15,.d (.list (g.map enN))),(16,.d (.int .i64 g.length)),(17,.d (.int .i64 j))],[],[]⟩)
  (fun j=>j≤g.length∧∀ j' (h:j'<g.length),j'<j→∀ i,i<rules.length→eH rules g[j'] i=true→∀ r,rules[i]?=some r→∀ b∈r.2.1++r.2.2,b∉g.map fun k=>((k:Nat):Int)) (fun j=>g.length-j) 0 [] [] ?_ ?_ ?_
 ·rw [List.length_map];((conv=>whnf);repeat (first | exact ⟨⟩ | (refine ⟨by first | rfl | (simp;done) | (simp;omega),?_⟩;conv=>whnf)))
 ·exact ⟨Nat.zero_le _,fun j' _ h=>by omega⟩
 ·rintro j ⟨hj,hno⟩;repeat (refine gw rfl ?_;conv=>whnf)
  (split<;>rename_i hb<;>(try rw [hb])<;>(conv=>whnf))
  ·have hjl:j<g.length:=(by simpa using hb);clear hb;have hxn:=hlt g[j] (List.getElem_mem hjl);have hrl:=yB rules g[j] rules.length;(repeat (refine gw rfl ?_;conv=>whnf));refine ⟨by omega,_,ay hjl,rfl,?_⟩;(conv=>whnf);(repeat (refine gw rfl ?_;conv=>whnf));refine ⟨by omega,_,Vj hxn,rfl,?_⟩;(conv=>whnf);rw [List.length_map];(repeat (refine gw rfl ?_;conv=>whnf));refine WP.loop (α:=Nat) (fun k=>⟨[(1,.d (.list ((hdM n rules rules.length).map fun r => .list (r.map enI)))),(2,.d (.list (g.map enN))),(3,.d (.ref [.list (atoms.map enT),.list (rules.map enG)] 0)),(15,.d (.list (g.map enN))),(16,.d (.int .i64 g.length)),(17,.d (.int .i64 j)),(24,.d (.list ((aI rules g[j] rules.length).map enI))),(25,.d (.int .i64 (aI rules g[j] rules.length).length)),(26,.d (.int .i64 k))],[],[]⟩)
    (fun k=>k≤(aI rules g[j] rules.length).length∧∀ k',k'<k→∀ i:Nat,(aI rules g[j] rules.length)[k']?=some ((i:Nat):Int)→∀ r,rules[i]?=some r→∀ b∈r.2.1++r.2.2,b∉g.map fun k=>((k:Nat):Int)) (fun k=>(aI rules g[j] rules.length).length-k) 0 [] [] ?_ ?_ ?_
   ·((conv=>whnf);repeat (first | exact ⟨⟩ | (refine ⟨by first | rfl | (simp;done) | (simp;omega),?_⟩;conv=>whnf)))
   ·exact ⟨Nat.zero_le _,fun k' h=>by omega⟩
   ·rintro k ⟨hk,hnk⟩;(repeat (refine gw rfl ?_;conv=>whnf));(split<;>rename_i hb<;>(try rw [hb])<;>(conv=>whnf))
    ·have hkl:k<(aI rules g[j] rules.length).length:=(by simpa using hb);clear hb;obtain ⟨i,hil,hih,hie⟩:=SG hkl;have hmem:rules[i]∈rules:=List.getElem_mem hil;have hfi:=hf rules[i] hmem;(repeat (refine gw rfl ?_;conv=>whnf));refine ⟨by omega,_,ay hkl,rfl,?_⟩;(conv=>whnf);rw [show enI (aI rules g[j] rules.length)[k]=D.int .i64 ((i:Nat):Int) by rw [hie];rfl];(repeat (refine gw rfl ?_;conv=>whnf));refine ⟨by omega,_,Md hil,rfl,?_⟩;(conv=>whnf);refine .inr ⟨_,_,_,_,_,_,Tryz.VY rules[i].2.1 (by omega),[(1,36)],[36],rfl,rfl,?_⟩;(conv=>whnf);refine ⟨by omega,_,Md hil,rfl,?_⟩;(conv=>whnf);refine ⟨rules[i].2.1.map enI,by rw [List.drop_zero];exact List.take_of_length_le (by simp),by simp,?_⟩;(conv=>whnf);refine ⟨hcell _,?_⟩;(conv=>whnf);refine ⟨by show _*8≤_;rw [List.length_map,List.length_map];omega,?_⟩;(conv=>whnf);rw [← List.map_append,show (rules[i].2.1.map enI).length+(rules[i].2.2.map enI).length=(rules[i].2.1++rules[i].2.2).length by simp];(repeat (refine gw rfl ?_;conv=>whnf));have hbl:(rules[i].2.1++rules[i].2.2).length≤16:=(by rw [List.length_append];omega);generalize hbd:rules[i].2.1++rules[i].2.2=bd at hbl;refine WP.loop (α:=Nat) (fun q=>⟨[(1,.d (.list ((hdM n rules rules.length).map fun r => .list (r.map enI)))),(2,.d (.list (g.map enN))),(3,.d (.ref [.list (atoms.map enT),.list (rules.map enG)] 0)),(15,.d (.list (g.map enN))),(16,.d (.int .i64 g.length)),(17,.d (.int .i64 j)),(24,.d (.list ((aI rules g[j] rules.length).map enI))),(25,.d (.int .i64 (aI rules g[j] rules.length).length)),(26,.d (.int .i64 k)),(43,.sl 43 1 0 bd.length),(44,.d (.int .i64 bd.length)),(45,.d (.int .i64 q))],[((43,0),some (.arr 1 (bd.map enI)))],[43]⟩)
      (fun q=>q≤bd.length∧∀ q' (h:q'<bd.length),q'<q→bd[q']∉g.map fun k=>((k:Nat):Int)) (fun q=>bd.length-q) 0 [(43,some 43)] [] ?_ ?_ ?_
     ·((conv=>whnf);repeat (first | exact ⟨⟩ | (refine ⟨by first | rfl | (simp;done) | (simp;omega),?_⟩;conv=>whnf)))
     ·exact ⟨Nat.zero_le _,fun q' _ h=>by omega⟩
     ·rintro q ⟨hq,hnq⟩;(repeat (refine gw rfl ?_;conv=>whnf));(split<;>rename_i hb<;>(try rw [hb])<;>(conv=>whnf))
      ·have hql:q<bd.length:=(by simpa using hb);clear hb;obtain ⟨kk,hbs⟩:=Tryz.bsI (g.map fun k=>((k:Nat):Int)) bd[q] (by rw [List.length_map];omega) hgi;rw [← QW] at hbs;(repeat (refine gw rfl ?_;conv=>whnf));refine ⟨by omega,?_⟩;rw [Int.toNat_natCast];(conv=>whnf);refine ⟨_,by rw [Nat.zero_add,List.getElem?_map,List.getElem?_eq_getElem hql];rfl,?_⟩;(conv=>whnf);(repeat (refine gw rfl ?_;conv=>whnf));refine .inl ⟨_,hbs,.inl rfl,?_⟩;(conv=>whnf);(repeat (refine gw rfl ?_;conv=>whnf));by_cases hin:bd[q]∈g.map fun k=>((k:Nat):Int)
       ·rw [decide_eq_true hin];(conv=>whnf);(repeat (refine gw rfl ?_;conv=>whnf));rw [Jf ⟨g[j],List.getElem_mem hjl,i,hil,hih,rules[i],List.getElem?_eq_getElem hil,bd[q],by rw [hbd];exact List.getElem_mem hql,hin⟩]
       ·rw [decide_eq_false hin];(conv=>whnf);(repeat (refine gw rfl ?_;conv=>whnf));refine ⟨by omega,?_⟩;(conv=>whnf);refine ⟨q+1,[(43,some 43)],[],?_,⟨by omega,fun q' h h'=>?_⟩,by omega⟩
        ·((conv=>whnf);repeat (first | exact ⟨⟩ | (refine ⟨by first | rfl | (simp;done) | (simp;omega),?_⟩;conv=>whnf)))
        ·rcases Nat.lt_or_ge q' q with h1 | h1
         ·exact hnq q' h h1
         ·obtain rfl:q'=q:=by omega
          exact hin
      ·have:q=bd.length:=(by simp at hb;omega);subst this;clear hb;(repeat (refine gw rfl ?_;conv=>whnf));refine ⟨by omega,?_⟩;(conv=>whnf);refine ⟨k+1,[],[],?_,⟨by omega,fun k' hk' i' hi' r hri b hb=>?_⟩,by omega⟩
       ·((conv=>whnf);repeat (first | exact ⟨⟩ | (refine ⟨by first | rfl | (simp;done) | (simp;omega),?_⟩;conv=>whnf)))
       ·rcases Nat.lt_or_ge k' k with h1 | h1
        ·exact hnk k' h1 i' hi' r hri b hb
        ·obtain rfl:k'=k:=by omega
         rw [List.getElem?_eq_getElem hkl,hie] at hi';have hii:i'=i:=(by have:=Option.some.inj hi';omega);subst hii;rw [List.getElem?_eq_getElem hil] at hri;obtain rfl:=Option.some.inj hri;rw [hbd] at hb;obtain ⟨q',hq',rfl⟩:=List.mem_iff_getElem.1 hb;exact hnq q' hq' hq'
    ·have:k=(aI rules g[j] rules.length).length:=(by simp at hb;omega);subst this;clear hb;(repeat (refine gw rfl ?_;conv=>whnf));refine ⟨by omega,?_⟩;(conv=>whnf);refine ⟨j+1,[],[],?_,⟨by omega,fun j' h hj' i hi hh r hri b hb=>?_⟩,by omega⟩
     ·((conv=>whnf);repeat (first | exact ⟨⟩ | (refine ⟨by first | rfl | (simp;done) | (simp;omega),?_⟩;conv=>whnf)))
     ·rcases Nat.lt_or_ge j' j with h1 | h1
      ·exact hno j' h h1 i hi hh r hri b hb
      ·obtain rfl:j'=j:=by omega
       obtain ⟨k',hk1,hk2⟩:=SQ hi hh;exact hnk k' hk1 i hk2 r hri b hb
  ·have:j=g.length:=(by simp at hb;omega);subst this;clear hb
   rw [Oy (fun ⟨a,ha,i,hi,hh,r,hri,b,hb,hbg⟩=>by
    obtain ⟨j',hj',rfl⟩:=List.mem_iff_getElem.1 ha
    exact hno j' hj' hj' i hi hh r hri b hb hbg)]
   repeat (refine gw rfl ?_;conv=>whnf)
def oq (l:List Tm) (i:Nat):Bool:=match l[i]? with
 | some t=>decide (t.args.length=0)&&nameB t.name&&(List.range i).all fun k=>match l[k]? with | some u=>!(u.name==t.name) | none=>true
 | none=>true
def aX (l:List Tm):Bool:=decide (1≤l.length)&&decide (l.length≤4)&&(List.range l.length).all (oq l)
theorem KX {l:List Tm} (h1:1≤l.length) (h2:l.length≤4) (h:∀ i,i<l.length→oq l i=true):aX l=true:=by
 unfold aX;rw [decide_eq_true h1,decide_eq_true h2,List.all_eq_true.2 fun i hi=>h i (List.mem_range.1 hi)];rfl
theorem o9 {l:List Tm} {i:Nat} (hi:i<l.length) (h:oq l i=false):aX l=false:=by
 unfold aX;rw [show (List.range l.length).all (oq l)=false from List.all_eq_false.2 ⟨i,List.mem_range.2 hi,by rw [h];simp⟩,Bool.and_false]
theorem pq {l:List Tm} {i:Nat} (hi:i<l.length):oq l i=(decide (l[i].args.length=0)&&nameB l[i].name&&(List.range i).all fun k=>match l[k]? with | some u=>!(u.name==l[i].name) | none=>true):=by
 unfold oq;rw [List.getElem?_eq_getElem hi]
theorem Vh {s:Str} (h:nameB s=true):∃ c r,s=c::r∧pJ c=true:=by
 unfold nameB at h;simp only [Bool.and_eq_true] at h;have hh:=h.1.1.1.1.2;cases s with
 | nil=>cases hh
 | cons c r=>exact ⟨c,r,rfl,hh⟩
theorem qA {s:Str} (h:nameB s=true):bF s=false∧vF s=false:=by
 obtain ⟨c,r,rfl,hc⟩:=Vh h;unfold pJ rng at hc;simp only [Bool.and_eq_true,decide_eq_true_eq] at hc;constructor
 ·unfold bF
  rw [show ((c::r).all mW)=false by
   rw [List.all_cons];unfold mW rng;rw [show decide ((c.toNat:Int)≤57)=false from decide_eq_false (by omega)]
   simp,Bool.and_false]
 ·have hu:qY c=false:=by
   unfold qY rng;rw [show decide ((c.toNat:Int)≤90)=false from decide_eq_false (by omega),Bool.and_false]
  unfold vF;rw [show headB qY (c::r)=qY c from rfl,hu];simp
theorem zT {t u:Tm} (ht:t.args.length=0) (hu:u.args.length=0) (h1:nameB t.name=true) (h2:nameB u.name=true):aS t u=0↔t.name=u.name:=by
 have a1:t.args=[]:=List.length_eq_zero_iff.1 ht;have a2:u.args=[]:=List.length_eq_zero_iff.1 hu;have c1:aO t=1:=by unfold aO;rw [if_pos ht,(qA h1).1,(qA h1).2];rfl
 have c2:aO u=1:=by unfold aO;rw [if_pos hu,(qA h2).1,(qA h2).2];rfl
 rw [BR,c1,c2,a1,a2,show aT 1 1=0 from rfl];simp only [ne_eq,not_true_eq_false,if_false,List.length_nil,bH];rw [if_neg (by decide),← nU];constructor
 ·intro h;split at h
  ·rename_i hn;exact absurd h hn
  ·rename_i hn;simpa using hn
 ·intro h;rw [h];simp
theorem Tryz.WT (l:List Tm) (hl:l.length≤9223372036854775807):Pure Tryz.prog 35 [.list (l.map enT)] [.bool (aX l)]:=by
 refine Pure.of_wp hT (nt:=_) (c:=_) Tryz.func35 rfl rfl rfl rfl (by kernel_rfl) ?_;intro w0 ok0 β0;repeat (refine gw rfl ?_;conv=>whnf)
 rw [List.length_map];by_cases h1:1≤l.length
 ·rw [show decide (((l.length:Nat):Int)<1)=false from decide_eq_false (by omega)];conv=>whnf
  rw [List.length_map];by_cases h4:l.length≤4
  ·rw [show decide (((l.length:Nat):Int)>4)=false from decide_eq_false (by omega)];(conv=>whnf);(repeat (refine gw rfl ?_;conv=>whnf));refine WP.loop (α:=Nat) (fun i=>⟨[(0,.d (.list (l.map enT))),(3,.d (.int .i64 i))],[],[]⟩) (fun i=>i≤l.length∧∀ j,j<i→oq l j=true) (fun i=>l.length-i) 0 [] [] ?_ ?_ ?_
   ·((conv=>whnf);repeat (first | exact ⟨⟩ | (refine ⟨by first | rfl | (simp;done) | (simp;omega),?_⟩;conv=>whnf)))
   ·exact ⟨Nat.zero_le _,fun j hj=>by omega⟩
   ·rintro i ⟨hi,hok⟩;(repeat (refine gw rfl ?_;conv=>whnf));rw [List.length_map];(split<;>rename_i hb<;>(try rw [hb])<;>(conv=>whnf))
    ·have hlt:i<l.length:=(by simpa using hb);clear hb;have hrk:=pq hlt;(repeat (refine gw rfl ?_;conv=>whnf));refine ⟨by omega,_,dB hlt,rfl,?_⟩;(conv=>whnf);rw [List.length_map];by_cases ha:l[i].args.length=0
     ·rw [show ((l[i].args.length:Int) != 0)=false by simp [ha]];(conv=>whnf);refine ⟨by omega,_,dB hlt,rfl,?_⟩;(conv=>whnf);refine .inl ⟨_,Tryz.DK l[i].name,.inl rfl,?_⟩;(conv=>whnf);cases hn:nameB l[i].name with
      | false=>
        rw [o9 hlt (by rw [hrk,hn,Bool.and_false,Bool.false_and])];(conv=>whnf);repeat (refine gw rfl ?_;conv=>whnf)
      | true=>
        rw [decide_eq_true ha,hn,Bool.true_and,Bool.true_and] at hrk;(conv=>whnf);(repeat (refine gw rfl ?_;conv=>whnf));refine WP.loop (α:=Nat) (fun k=>⟨[(0,.d (.list (l.map enT))),(3,.d (.int .i64 i)),(4,.d (.int .i64 k))],[],[]⟩) (fun k=>k≤i∧∀ j,j<k→(match l[j]? with | some u=>!(u.name==l[i].name) | none=>true)=true) (fun k=>i-k) 0 [] [] ?_ ?_ ?_
        ·((conv=>whnf);repeat (first | exact ⟨⟩ | (refine ⟨by first | rfl | (simp;done) | (simp;omega),?_⟩;conv=>whnf)))
        ·exact ⟨Nat.zero_le _,fun j hj=>by omega⟩
        ·rintro k ⟨hk,hne⟩;(repeat (refine gw rfl ?_;conv=>whnf));(split<;>rename_i hb<;>(try rw [hb])<;>(conv=>whnf))
         ·have hkl:k<i:=(by simpa using hb);clear hb;have hkl2:k<l.length:=(by omega);(repeat (refine gw rfl ?_;conv=>whnf));refine ⟨by omega,_,dB hkl2,rfl,?_⟩;(conv=>whnf);refine ⟨by omega,_,dB hlt,rfl,?_⟩;(conv=>whnf);(repeat (refine gw rfl ?_;conv=>whnf));have hkg:l[k]?=some l[k]:=List.getElem?_eq_getElem hkl2;cases he:l[k].name==l[i].name with
          | true=>
            rw [o9 hlt (by
             rw [hrk]
             exact List.all_eq_false.2 ⟨k,List.mem_range.2 hkl,by rw [hkg];simp only [he];simp⟩)]
            (conv=>whnf);repeat (refine gw rfl ?_;conv=>whnf)
          | false=>
            (conv=>whnf);(repeat (refine gw rfl ?_;conv=>whnf));refine ⟨by omega,?_⟩;(conv=>whnf);refine ⟨k+1,[],[],?_,⟨by omega,fun j hj=>?_⟩,by omega⟩
            ·((conv=>whnf);repeat (first | exact ⟨⟩ | (refine ⟨by first | rfl | (simp;done) | (simp;omega),?_⟩;conv=>whnf)))
            ·rcases Nat.lt_or_ge j k with h | h
             ·exact hne j h
             ·obtain rfl:j=k:=by omega
              rw [hkg];simp only [he];rfl
         ·have:k=i:=(by simp at hb;omega);subst this;clear hb;(repeat (refine gw rfl ?_;conv=>whnf));refine ⟨by omega,?_⟩;(conv=>whnf);refine ⟨k+1,[],[],?_,⟨by omega,fun j hj=>?_⟩,by omega⟩
          ·((conv=>whnf);repeat (first | exact ⟨⟩ | (refine ⟨by first | rfl | (simp;done) | (simp;omega),?_⟩;conv=>whnf)))
          ·rcases Nat.lt_or_ge j k with h | h
           ·exact hok j h
           ·obtain rfl:j=k:=by omega
            rw [hrk];exact List.all_eq_true.2 fun q hq=>hne q (List.mem_range.1 hq)
     ·rw [show ((l[i].args.length:Int) != 0)=true by simpa using ha];rw [o9 hlt (by rw [hrk,decide_eq_false ha,Bool.false_and,Bool.false_and])];(conv=>whnf);repeat (refine gw rfl ?_;conv=>whnf)
    ·have:i=l.length:=(by simp at hb;omega);subst this;rw [KX h1 h4 hok];repeat (refine gw rfl ?_;conv=>whnf)
  ·rw [show decide (((l.length:Nat):Int)>4)=true from decide_eq_true (by omega)];rw [show aX l=false by unfold aX;rw [decide_eq_false h4,Bool.and_false,Bool.false_and]];(conv=>whnf);repeat (refine gw rfl ?_;conv=>whnf)
 ·rw [show decide (((l.length:Nat):Int)<1)=true from decide_eq_true (by omega)];rw [show aX l=false by unfold aX;rw [decide_eq_false h1,Bool.false_and,Bool.false_and]];conv=>whnf
  repeat (refine gw rfl ?_;conv=>whnf)
def dM (u:Tm):Int→List Tm→Int
 | _,[]=>-1
 | i,t::l=>if aS t u=0 then i else dM u (i+1) l
theorem LC {u:Tm}:∀ {l:List Tm} {i:Int},0≤i→(0≤dM u i l↔∃ t∈l,aS t u=0)
 | [],i,h=>by simp [dM]
 | t::l,i,h=>by
   unfold dM;by_cases e:aS t u=0
   ·rw [if_pos e];exact ⟨fun _=>⟨t,List.mem_cons_self ..,e⟩,fun _=>h⟩
   ·rw [if_neg e,LC (by omega)];constructor
    ·rintro ⟨x,hx,hc⟩;exact ⟨x,List.mem_cons_of_mem _ hx,hc⟩
    ·rintro ⟨x,hx,hc⟩;rcases List.mem_cons.1 hx with rfl | hx
     ·exact absurd hc e
     ·exact ⟨x,hx,hc⟩
theorem Tryz.Xf (t u:Tm) (ht:okT t) (hu:okT u):Pure Tryz.prog 111 [tD t.name t.args,.ref [.str u.name,.list (u.args.map enT)] 0] [.bool (decide (aS t u=0))]:=by
 refine Pure.of_wp hT (nt:=_) (c:=_) Tryz.func111 rfl rfl rfl rfl (by kernel_rfl) ?_;intro w0 ok0 β0;repeat (refine gw rfl ?_;conv=>whnf)
 refine .inl ⟨_,Tryz.compare t u ht hu,.inl rfl,?_⟩;conv=>whnf
 repeat (refine gw rfl ?_;conv=>whnf)
 rfl
theorem Tryz.Va (f:Nat) (l:List Tm) (u:Tm) (hf:∀ t,okT t→Pure Tryz.prog f [tD t.name t.args,.ref [.str u.name,.list (u.args.map enT)] 0] [.bool (decide (aS t u=0))]) (hl:l.length≤1000000) (hok:∀ x∈l,okT x) :
  Pure Tryz.prog 110 [.list (l.map enT),.fn f [.ref [.str u.name,.list (u.args.map enT)] 0]] [.int .i64 (dM u 0 l)]:=by
 refine Pure.of_wp hT (nt:=_) (c:=_) Tryz.func110 rfl rfl rfl rfl (by kernel_rfl) ?_;intro w0 ok0 β0;repeat (refine gw rfl ?_;conv=>whnf)
 refine WP.loop (α:=Nat) (fun i=>⟨[(0,.d (.list (l.map enT))),(1,.d (.fn f [.ref [.str u.name,.list (u.args.map enT)] 0])),(7,.d (.int .i64 l.length)),(8,.d (.int .i64 i))],[],[]⟩)
  (fun i=>i≤l.length∧dM u 0 l=dM u i (l.drop i)) (fun i=>l.length-i) 0 [] [] ?_ ?_ ?_
 ·rw [List.length_map];((conv=>whnf);repeat (first | exact ⟨⟩ | (refine ⟨by first | rfl | (simp;done) | (simp;omega),?_⟩;conv=>whnf)))
 ·simp
 ·rintro i ⟨hi,hx⟩;repeat (refine gw rfl ?_;conv=>whnf)
  (split<;>rename_i hb<;>(try rw [hb])<;>(conv=>whnf))
  ·have hlt:i<l.length:=(by simpa using hb);clear hb;rw [List.drop_eq_getElem_cons hlt,dM] at hx;(repeat (refine gw rfl ?_;conv=>whnf));refine ⟨by omega,_,dB hlt,rfl,?_⟩;(conv=>whnf);refine .inl ⟨_,hf l[i] (hok _ (List.getElem_mem hlt)),.inl rfl,?_⟩;(conv=>whnf);by_cases hc:aS l[i] u=0
   ·rw [if_pos hc] at hx;rw [decide_eq_true hc];(conv=>whnf);(repeat (refine gw rfl ?_;conv=>whnf));rw [hx]
   ·rw [if_neg hc] at hx;rw [decide_eq_false hc];(conv=>whnf);(repeat (refine gw rfl ?_;conv=>whnf));refine ⟨by omega,?_⟩;(conv=>whnf);refine ⟨i+1,[],[],?_,⟨by omega,by rw [hx];rfl⟩,by omega⟩;((conv=>whnf);repeat (first | exact ⟨⟩ | (refine ⟨by first | rfl | (simp;done) | (simp;omega),?_⟩;conv=>whnf)))
  ·have hii:i=l.length:=(by simp at hb;omega);subst hii;rw [List.drop_length] at hx;(repeat (refine gw rfl ?_;conv=>whnf));rw [hx];rfl
theorem Tryz.Xd (l:List Tm) (u:Tm) (hl:l.length≤1000000) (hok:∀ x∈l,okT x) (hu:okT u) :
  Pure Tryz.prog 74 [.list (l.map enT),tD u.name u.args] [.int .i64 (dM u 0 l)]:=by
 refine Pure.of_wp hT (nt:=_) (c:=_) Tryz.func74 rfl rfl rfl rfl (by kernel_rfl) ?_;intro w0 ok0 β0;repeat (refine gw rfl ?_;conv=>whnf)
 refine .inl ⟨_,Tryz.Va 111 l u (fun t ht=>Tryz.Xf t u ht hu) hl hok,.inl rfl,?_⟩;conv=>whnf
 repeat (refine gw rfl ?_;conv=>whnf)
set_option maxRecDepth 10000 in
theorem Tryz.names (l:List Tm) (hl:l.length≤9223372036854775807) (hok:∀ x∈l,okT x):Pure Tryz.prog 29 [.list (l.map enT)] [.bool (aX l)]:=by
 refine Pure.of_wp hT (nt:=_) (c:=_) Tryz.func29 rfl rfl rfl rfl (by kernel_rfl) ?_;intro w0 ok0 β0;repeat (refine gw rfl ?_;conv=>whnf)
 rw [List.length_map];by_cases h1:1≤l.length
 ·rw [show decide (((l.length:Nat):Int)<1)=false from decide_eq_false (by omega)];conv=>whnf
  rw [List.length_map];by_cases h4:l.length≤4
  ·rw [show decide (((l.length:Nat):Int)>4)=false from decide_eq_false (by omega)];(conv=>whnf);(repeat (refine gw rfl ?_;conv=>whnf));refine WP.loop (α:=Nat) (fun i=>⟨[(0,.d (.list (l.map enT))),(13,.d (.list (l.map enT))),(14,.d (.int .i64 l.length)),(15,.d (.int .i64 i))],[],[]⟩) (fun i=>i≤l.length∧∀ j,j<i→oq l j=true) (fun i=>l.length-i) 0 [] [] ?_ ?_ ?_
   ·rw [List.length_map];((conv=>whnf);repeat (first | exact ⟨⟩ | (refine ⟨by first | rfl | (simp;done) | (simp;omega),?_⟩;conv=>whnf)))
   ·exact ⟨Nat.zero_le _,fun j hj=>by omega⟩
   ·rintro i ⟨hi,hro⟩;(repeat (refine gw rfl ?_;conv=>whnf));(split<;>rename_i hb<;>(try rw [hb])<;>(conv=>whnf))
    ·have hlt:i<l.length:=(by simpa using hb);clear hb;have hrk:=pq hlt;(repeat (refine gw rfl ?_;conv=>whnf));refine ⟨by omega,_,dB hlt,rfl,?_⟩;(conv=>whnf);(repeat (refine gw rfl ?_;conv=>whnf));rw [List.length_map];by_cases ha:l[i].args.length=0
     ·rw [show decide (((l[i].args.length:Nat):Int)>0)=false from decide_eq_false (by omega)];(conv=>whnf);refine .inl ⟨_,Tryz.name l[i].name,.inl rfl,?_⟩;(conv=>whnf);cases hn:nameB l[i].name with
      | false=>
        rw [o9 hlt (by rw [hrk,hn,Bool.and_false,Bool.false_and])];(conv=>whnf);repeat (refine gw rfl ?_;conv=>whnf)
      | true=>
        rw [decide_eq_true ha,hn,Bool.true_and,Bool.true_and] at hrk;(conv=>whnf);refine ⟨by simp only [Option.getD_none,Option.getD_some,List.length_map];omega,fun y hy=>?_,?_⟩
        ·obtain ⟨t,_,rfl⟩:=List.mem_map.1 hy;rw [bQ];rfl
        (conv=>whnf);rw [show List.drop ((none:Option Int).getD 0).toNat (List.take ((some ((i:Nat):Int)).getD ((l.map enT).length:Nat)).toNat (l.map enT))=(l.take i).map enT by simp [List.map_take]];refine .inl ⟨_,Tryz.Xd (l.take i) l[i] (by rw [List.length_take];omega) (fun x hx=>hok x (List.mem_of_mem_take hx)) (hok _ (List.getElem_mem hlt)),.inl rfl,?_⟩;have hkey:0≤dM l[i] 0 (l.take i)↔oq l i=false:=by
         rw [LC (by decide),hrk,List.all_eq_false];constructor
         ·rintro ⟨t,ht,hc⟩;obtain ⟨k,hk,rfl⟩:=List.mem_iff_getElem.1 ht;rw [List.length_take] at hk;have hkl:k<l.length:=(by omega);have hrok:=hro k (by omega);rw [pq hkl] at hrok;simp only [Bool.and_eq_true,decide_eq_true_eq] at hrok;refine ⟨k,List.mem_range.2 (by omega),?_⟩;rw [List.getElem?_eq_getElem hkl];rw [List.getElem_take] at hc;simp [(zT hrok.1.1 ha hrok.1.2 hn).1 hc]
         ·rintro ⟨k,hk,hc⟩;have hki:=List.mem_range.1 hk;have hkl:k<l.length:=(by omega);have hrok:=hro k hki;rw [pq hkl] at hrok;simp only [Bool.and_eq_true,decide_eq_true_eq] at hrok;rw [List.getElem?_eq_getElem hkl] at hc;refine ⟨l[k],List.mem_iff_getElem.2 ⟨k,by rw [List.length_take];omega,by rw [List.getElem_take]⟩,(zT hrok.1.1 ha hrok.1.2 hn).2 ?_⟩
          simpa using hc
        cases hr:oq l i with
        | false=>
          rw [o9 hlt hr];(conv=>whnf);rw [show decide (dM l[i] 0 (l.take i)≥0)=true from decide_eq_true (hkey.2 hr)];(conv=>whnf);repeat (refine gw rfl ?_;conv=>whnf)
        | true=>
          (conv=>whnf);rw [show decide (dM l[i] 0 (l.take i)≥0)=false from decide_eq_false (fun h=>by rw [hkey.1 h] at hr;cases hr)];(conv=>whnf);(repeat (refine gw rfl ?_;conv=>whnf));refine ⟨by omega,?_⟩;(conv=>whnf);refine ⟨i+1,[],[],?_,⟨by omega,fun j hj=>?_⟩,by omega⟩
          ·((conv=>whnf);repeat (first | exact ⟨⟩ | (refine ⟨by first | rfl | (simp;done) | (simp;omega),?_⟩;conv=>whnf)))
          ·rcases Nat.lt_or_ge j i with h | h
           ·exact hro j h
           ·obtain rfl:j=i:=by omega
            exact hr
     ·rw [show decide (((l[i].args.length:Nat):Int)>0)=true from decide_eq_true (by omega)];rw [o9 hlt (by rw [hrk,decide_eq_false ha,Bool.false_and,Bool.false_and])];(conv=>whnf);repeat (refine gw rfl ?_;conv=>whnf)
    ·have:i=l.length:=(by simp at hb;omega);subst this;rw [KX h1 h4 hro];repeat (refine gw rfl ?_;conv=>whnf)
  ·rw [show decide (((l.length:Nat):Int)>4)=true from decide_eq_true (by omega)];rw [show aX l=false by unfold aX;rw [decide_eq_false h4,Bool.and_false,Bool.false_and]];(conv=>whnf);repeat (refine gw rfl ?_;conv=>whnf)
 ·rw [show decide (((l.length:Nat):Int)<1)=true from decide_eq_true (by omega)];rw [show aX l=false by unfold aX;rw [decide_eq_false h1,Bool.false_and,Bool.false_and]];conv=>whnf
  repeat (refine gw rfl ?_;conv=>whnf)
end Go.Proofs.YtdonenoiehdahaaGreat
namespace Go.Proofs.YtdonenoiehdahaaGreat
open Go Go.Abs Go.Own
theorem MB {rules:List Gr} {r:Gr} {a i:Nat} (h:i<rules.length):eH (rules++[r]) a i=eH rules a i:=by
 unfold eH;rw [List.getElem?_append_left h]
theorem MF (a:Nat):∀ (rules:List Gr),(aI rules a rules.length).length=(rules.filter fun r=>decide (r.1=((a:Nat):Int))).length:=fun rules=>by
 induction hk:rules.length generalizing rules with
 | zero=>
   obtain rfl:=List.length_eq_zero_iff.1 hk;rfl
 | succ k ih=>
   obtain ⟨l,r,rfl⟩:∃ l r,rules=l++[r]:=⟨rules.dropLast,rules.getLast (by intro e;rw [e] at hk;cases hk),(List.dropLast_concat_getLast _).symm⟩
   have hl:l.length=k:=(by simpa using hk);have h1:=ih l hl;subst hl;unfold aI at h1 ⊢;rw [List.length_map] at h1 ⊢;rw [List.range_succ,List.filter_append,List.length_append,List.filter_append,List.length_append,← h1];congr 1
   ·congr 1;exact List.filter_congr fun i hi=>MB (List.mem_range.1 hi)
   ·have:eH (l++[r]) a l.length=decide (r.1=((a:Nat):Int)):=(by unfold eH;simp);by_cases e:r.1=((a:Nat):Int)
    ·rw [decide_eq_true e] at this;simp [this,e]
    ·rw [decide_eq_false e] at this;simp [this,e]
def fD (rules:List Gr) (g:List Nat):Nat:=(g.map fun a=>(aI rules a rules.length).length).sum
theorem IC (a:Nat) (g:List Nat):∀ (rules:List Gr),yP rules (a::g)=(rules.filter fun r=>decide (r.1=((a:Nat):Int))).length+yP rules g
 | []=>rfl
 | r::l=>by
   have ih:=IC a g l;unfold yP at ih ⊢;rw [List.map_cons,List.sum_cons,List.map_cons,List.sum_cons,ih];by_cases e:r.1=((a:Nat):Int)
   ·have:zS r.1 (a::g)=zS r.1 g+1:=(by unfold zS;rw [List.filter_cons,if_pos (decide_eq_true e)];rfl);rw [this,List.filter_cons,if_pos (decide_eq_true e),List.length_cons];omega
   ·have:zS r.1 (a::g)=zS r.1 g:=(by unfold zS;rw [List.filter_cons,if_neg (by simpa using e)]);rw [this,List.filter_cons,if_neg (by simpa using e)];omega
theorem Q8 (rules:List Gr):∀ g:List Nat,yP rules g=fD rules g
 | []=>by
   unfold yP fD
   induction rules with
   | nil=>rfl
   | cons r l ih=>rw [List.map_cons,List.sum_cons,ih];rfl
 | a::g=>by
   rw [IC,Q8 rules g,← MF];rfl
theorem Rch.first {m:Own.Rows} {a b:Int} (h:Rch m a b):∃ c,c∈rowOf m a∧(c=b∨Rch m c b):=by
 induction h with
 | one h1=>exact ⟨_,h1,.inl rfl⟩
 | step h0 h1 ih=>
   obtain ⟨c,hc,hd⟩:=ih;refine ⟨c,hc,.inr ?_⟩;rcases hd with rfl | hd
   ·exact .one h1
   ·exact .step hd h1
theorem TN {m:Own.Rows} {r:Gr} {i x:Int} (hi:0≤i) (hr:0≤r.1) (h:x∈rowOf (gG m r) i):x∈rowOf m i∨(r.1=i∧(x∈r.2.1∨x∈r.2.2)):=by
 unfold rowOf gG at h;by_cases e:r.1.toNat=i.toNat
 ·by_cases hl:r.1.toNat<m.length
  ·rw [← e,List.getElem?_set_self hl] at h;simp only [Option.getD_some,List.mem_append] at h;have hri:r.1=i:=(by omega);rcases h with (h | h) | h
   ·rw [hri] at h;exact .inl h
   ·exact .inr ⟨hri,.inl h⟩
   ·exact .inr ⟨hri,.inr h⟩
  ·rw [List.set_eq_of_length_le (by omega)] at h;exact .inl h
 ·rw [List.getElem?_set_ne e] at h;exact .inl h
theorem wO {n:Nat} {rules:List Gr} (hr:∀ r∈rules,0≤r.1) {i x:Int} (hi:0≤i) (h:x∈rowOf (aA n rules) i):∃ r∈rules,r.1=i∧(x∈r.2.1∨x∈r.2.2):=by
 have key:∀ (l:List Gr) (m:Own.Rows),(∀ r∈l,0≤r.1)→x∈rowOf (l.foldl gG m) i→x∈rowOf m i∨∃ r∈l,r.1=i∧(x∈r.2.1∨x∈r.2.2):=fun l=>by
  induction l with
  | nil=>intro m _ h;exact .inl h
  | cons r l ih=>
    intro m hl h;rcases ih (gG m r) (fun r' h'=>hl r' (by simp [h'])) h with h | ⟨r',h1,h2⟩
    ·rcases TN hi (hl r (by simp)) h with h | h
     ·exact .inl h
     ·exact .inr ⟨r,by simp,h⟩
    ·exact .inr ⟨r',by simp [h1],h2⟩
 rcases key rules _ hr h with h | h
 ·exfalso;unfold rowOf at h;rw [List.getElem?_replicate] at h;split at h<;>simp at h
 ·exact h
theorem Ec {n a x y:Nat} {m:Own.Rows} (ha:a<n) (hx:x∈grp (bg n m) n a) (hy:y∈grp (bg n m) n a):x=y∨(Rch m x y∧Rch m y x):=by
 obtain ⟨hxn,h1⟩:=cO.1 hx;obtain ⟨hyn,h2⟩:=cO.1 hy;rcases (gK ha hxn).1 h1 with rfl | ⟨p1,p2⟩
 ·exact (gK ha hyn).1 h2
 ·rcases (gK ha hyn).1 h2 with rfl | ⟨q1,q2⟩
  ·exact .inr ⟨p2,p1⟩
  ·exact .inr ⟨p2.trans q1,q2.trans p1⟩
theorem Ul {n a g0:Nat} {rules:List Gr} (hi:dZ n rules) (ha:a<n) (h0:g0∈grp (bg n (aA n rules)) n a):P6 rules (grp (bg n (aA n rules)) n a)↔Rch (aA n rules) g0 g0:=by
 constructor
 ·rintro ⟨x,hx,i,hil,hh,r,hri,b,hb,hbg⟩;obtain ⟨y,hy,rfl⟩:=List.mem_map.1 hbg;have hrm:r∈rules:=List.mem_of_getElem? hri;have hrx:r.1=((x:Nat):Int):=by
   unfold eH at hh;rw [hri] at hh;simpa using hh
  have hd:=hi.head r hrm;have hst:Rch (aA n rules) x y:=by
   rw [← hrx];exact .one (G8 hrm (by omega) (List.mem_append.1 hb))
  have hxx:Rch (aA n rules) x x:=by
   rcases Ec ha hy hx with e | ⟨q,_⟩
   ·subst e;exact hst
   ·exact hst.trans q
  rcases Ec ha h0 hx with e | ⟨p,q⟩
  ·subst e;exact hxx
  ·exact p.trans q
 ·intro h;obtain ⟨c,hc,hd⟩:=Rch.first h
  obtain ⟨r,hrm,hrg,hbody⟩:=wO (fun r hr=>(hi.head r hr).1) (by omega) hc;have hcn:0≤c∧c<n:=hbody.elim ((hi.body r hrm).1 c) ((hi.body r hrm).2 c);obtain ⟨c',rfl⟩:∃ c':Nat,c=((c':Nat):Int):=⟨c.toNat,by omega⟩
  obtain ⟨h0n,h0s⟩:=cO.1 h0;have hcg:c'∈grp (bg n (aA n rules)) n a:=by
   refine cO.2 ⟨by omega,(gK ha (by omega)).2 ?_⟩;have h1:Rch (aA n rules) g0 c' := .one hc;rcases hd with e | h2
   ·have:c'=g0:=(by omega);subst this;exact (gK ha h0n).1 h0s
   ·rcases (gK ha h0n).1 h0s with rfl | ⟨p,q⟩
    ·exact .inr ⟨h1,h2⟩
    ·exact .inr ⟨p.trans h1,h2.trans q⟩
  obtain ⟨i,hil,hie⟩:=List.mem_iff_getElem.1 hrm;exact ⟨g0,h0,i,hil,by unfold eH;rw [List.getElem?_eq_getElem hil,hie];simpa using hrg,r,by rw [List.getElem?_eq_getElem hil,hie],_,List.mem_append.2 hbody,List.mem_map.2 ⟨c',hcg,rfl⟩⟩
theorem GK (d:List (List Bool)) (n:Nat):∀ (k:Nat) (l:List Bool) (out:List (List Nat)),(∀ g∈out,∃ a,a<n∧g=grp d n a)→∀ g∈wI d n k l out,∃ a,a<n∧g=grp d n a
 | 0,l,out,h=>h
 | k+1,l,out,h=>by
   unfold wI;cases hf:(List.range n).find? (lD d n l) with
   | none=>exact h
   | some a=>
     refine GK d n k _ _ fun g hg=>?_
     rcases List.mem_append.1 hg with hg | hg
     ·exact h g hg
     ·rw [List.mem_singleton] at hg;exact ⟨a,(Ie hf).1,hg⟩
theorem nO (d:List (List Bool)) (n:Nat):∀ g∈aQ d n,∃ a,a<n∧g=grp d n a:=GK d n _ _ _ (fun g hg=>by cases hg)
end Go.Proofs.YtdonenoiehdahaaGreat
