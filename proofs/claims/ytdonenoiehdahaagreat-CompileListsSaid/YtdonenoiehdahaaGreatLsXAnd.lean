/- Walks: the reference's check of a network, lists and outputs. -/
import Derived.Test.YtdonenoiehdahaaGreatLtAAnd
import Derived.Test.YtdonenoiehdahaaGreatGrYAnd
import Derived.Test.YtdonenoiehdahaaGreatLtJAnd
set_option linter.all false
namespace Go.Proofs.YtdonenoiehdahaaGreat
open Go Go.Abs Go.Own
attribute [local irreducible] WP
theorem XA {l:List Tm} {i:Nat} (h:i+1<l.length):(l.map enT)[(((i+1:Nat):Int)-1).toNat]?=some (tD l[i].name l[i].args):=by
 rw [show (((i+1:Nat):Int)-1)=(i:Nat) by omega];exact dA (by omega)
set_option maxRecDepth 10000 in
theorem Tryz.VJ (gs:List Gt) (roles bases:List Tm) (ins:List In) (ini next legal:List Int) (goals sees:List D) (term:Int) (hid:Bool) (hb1:bases.length≤1000) (hi1:ins.length≤100000) (hn1:ini.length≤100000)
  (ob:∀ x∈bases,okT x∧fO false 4 x=true) (ab:bases.Pairwise fun a b=>aO a b<0) (oi:∀ x∈ins,okT x.2∧fO false 4 x.2=true∧x.1<roles.length) (ai:ins.Pairwise fun a b=>a.1<b.1∨(a.1=b.1∧aO a.2 b.2<0))
  (oj:∀ x∈ini,0≤x∧x<(bases.length:Nat)) (aj:ini.Pairwise (·<·)) (l1:next.length=bases.length) (l2:legal.length=ins.length) :
  Pure Tryz.prog 54 [(fQ gs roles bases ins ini next legal goals sees term hid)] [.bool true]:=by
 refine Pure.of_wp hT (nt:=_) (c:=_) Tryz.func54 rfl rfl rfl rfl (by kernel_rfl) ?_
 intro w0 ok0 β0
 repeat (refine gw rfl ?_;conv=>whnf)
 refine WP.loop (α:=Nat) (fun i=>⟨[(1,.d (.ref (fQ gs roles bases ins ini next legal goals sees term hid).cells 0)),(3,.d (.int .i64 i))],[],[]⟩) (fun i=>i≤bases.length) (fun i=>bases.length-i) 0 [] [] ?_ ?_ ?_
 ·((conv=>whnf);repeat (first | exact ⟨⟩ | (refine ⟨by first | rfl | (simp;done) | (simp;omega),?_⟩;conv=>whnf)))
 ·exact Nat.zero_le _
 ·intro i hi
  repeat (refine gw rfl ?_;conv=>whnf)
  rw [List.length_map]
  (split<;>rename_i hb<;>(try rw [hb])<;>(conv=>whnf))
  ·have hlt:i<bases.length:=by simpa using hb
   clear hb
   have hgt:=dA hlt
   obtain ⟨o1,o2⟩:=ob _ (List.getElem_mem hlt)
   repeat (refine gw rfl ?_;conv=>whnf)
   refine ⟨by omega,_,hgt,rfl,?_⟩
   conv=>whnf
   refine .inl ⟨_,Tryz.xC _,.inl rfl,?_⟩
   rw [o2]
   conv=>whnf
   cases i with
   | zero=>
     conv=>whnf
     repeat (refine gw rfl ?_;conv=>whnf)
     refine ⟨by omega,?_⟩
     conv=>whnf
     refine ⟨1,[],[],?_,by omega,by omega⟩
     ((conv=>whnf);repeat (first | exact ⟨⟩ | (refine ⟨by first | rfl | (simp;done) | (simp;omega),?_⟩;conv=>whnf)))
   | succ i=>
     have h5:=List.pairwise_iff_getElem.1 ab i (i+1) (by omega) hlt (by omega)
     rw [show decide ((((i+1:Nat)):Int)>0)=true from decide_eq_true (by omega)]
     conv=>whnf
     refine ⟨by omega,?_⟩
     conv=>whnf
     refine ⟨by omega,_,XA hlt,rfl,?_⟩
     conv=>whnf
     refine ⟨by omega,_,hgt,rfl,?_⟩
     conv=>whnf
     refine .inl ⟨_,Tryz.oW bases[i] bases[i+1] (ob _ (List.getElem_mem _)).1 o1,.inl rfl,?_⟩
     conv=>whnf
     rw [show decide (aO bases[i] bases[i+1]≥0)=false from decide_eq_false (by omega)]
     conv=>whnf
     repeat (refine gw rfl ?_;conv=>whnf)
     refine ⟨by omega,?_⟩
     conv=>whnf
     refine ⟨i+2,[],[],?_,by omega,by omega⟩
     ((conv=>whnf);repeat (first | exact ⟨⟩ | (refine ⟨by first | rfl | (simp;done) | (simp;omega),?_⟩;conv=>whnf)))
  ·clear hb
   repeat (refine gw rfl ?_;conv=>whnf)
   refine WP.loop (α:=Nat) (fun i=>⟨[(1,.d (.ref (fQ gs roles bases ins ini next legal goals sees term hid).cells 0)),(4,.d (.int .i64 i))],[],[]⟩) (fun i=>i≤ins.length) (fun i=>ins.length-i) 0 [] [] ?_ ?_ ?_
   ·((conv=>whnf);repeat (first | exact ⟨⟩ | (refine ⟨by first | rfl | (simp;done) | (simp;omega),?_⟩;conv=>whnf)))
   ·exact Nat.zero_le _
   ·intro i hi
    repeat (refine gw rfl ?_;conv=>whnf)
    rw [List.length_map]
    (split<;>rename_i hb<;>(try rw [hb])<;>(conv=>whnf))
    ·have hlt:i<ins.length:=by simpa using hb
     clear hb
     have hgt:=TU hlt
     obtain ⟨o1,o2,o3⟩:=oi _ (List.getElem_mem hlt)
     repeat (refine gw rfl ?_;conv=>whnf)
     refine ⟨by omega,_,hgt,rfl,?_⟩
     conv=>whnf
     repeat (refine gw rfl ?_;conv=>whnf)
     rw [List.length_map,show decide (((ins[i].1:Nat):Int)<0)=false from decide_eq_false (by omega),show decide (((ins[i].1:Nat):Int)≥((roles.length:Nat):Int))=false from decide_eq_false (by omega)]
     conv=>whnf
     refine .inl ⟨_,Tryz.xC ins[i].2,.inl rfl,?_⟩
     rw [o2]
     conv=>whnf
     repeat (refine gw rfl ?_;conv=>whnf)
     cases i with
     | zero=>
       conv=>whnf
       repeat (refine gw rfl ?_;conv=>whnf)
       refine ⟨by omega,?_⟩
       conv=>whnf
       refine ⟨1,[],[],?_,by omega,by omega⟩
       ((conv=>whnf);repeat (first | exact ⟨⟩ | (refine ⟨by first | rfl | (simp;done) | (simp;omega),?_⟩;conv=>whnf)))
     | succ i=>
       have h5:=List.pairwise_iff_getElem.1 ai i (i+1) (by omega) hlt (by omega)
       have hgp:=TU (show i<ins.length by omega)
       have o4:=(oi _ (List.getElem_mem (show i<ins.length by omega))).1
       generalize ins[i]=y at h5 hgp o4
       generalize ins[i+1]=x at *
       rw [show decide ((((i+1:Nat)):Int)>0)=true from decide_eq_true (by omega)]
       conv=>whnf
       repeat (refine gw rfl ?_;conv=>whnf)
       refine ⟨by omega,?_⟩
       conv=>whnf
       refine ⟨by omega,_,by rw [show (((i+1:Nat):Int)-1)=(i:Nat) by omega];exact hgp,rfl,?_⟩
       conv=>whnf
       repeat (refine gw rfl ?_;conv=>whnf)
       rcases h5 with h5 | ⟨h5,h6⟩
       ·rw [show decide (((y.1:Nat):Int)>((x.1:Nat):Int))=false from decide_eq_false (by omega)]
        conv=>whnf
        rw [show (((y.1:Nat):Int)==((x.1:Nat):Int))=false from beq_eq_false_iff_ne.2 (by omega)]
        conv=>whnf
        repeat (refine gw rfl ?_;conv=>whnf)
        refine ⟨by omega,?_⟩
        conv=>whnf
        refine ⟨i+2,[],[],?_,by omega,by omega⟩
        ((conv=>whnf);repeat (first | exact ⟨⟩ | (refine ⟨by first | rfl | (simp;done) | (simp;omega),?_⟩;conv=>whnf)))
       ·rw [show decide (((y.1:Nat):Int)>((x.1:Nat):Int))=false from decide_eq_false (by omega)]
        conv=>whnf
        rw [show (((y.1:Nat):Int)==((x.1:Nat):Int))=true from beq_iff_eq.2 (by omega)]
        conv=>whnf
        refine .inl ⟨_,Tryz.oW y.2 x.2 o4 o1,.inl rfl,?_⟩
        conv=>whnf
        rw [show decide (aO y.2 x.2≥0)=false from decide_eq_false (by omega)]
        conv=>whnf
        repeat (refine gw rfl ?_;conv=>whnf)
        refine ⟨by omega,?_⟩
        conv=>whnf
        refine ⟨i+2,[],[],?_,by omega,by omega⟩
        ((conv=>whnf);repeat (first | exact ⟨⟩ | (refine ⟨by first | rfl | (simp;done) | (simp;omega),?_⟩;conv=>whnf)))
    ·clear hb
     repeat (refine gw rfl ?_;conv=>whnf)
     refine WP.loop (α:=Nat) (fun i=>⟨[(1,.d (.ref (fQ gs roles bases ins ini next legal goals sees term hid).cells 0)),(7,.d (.int .i64 i))],[],[]⟩) (fun i=>i≤ini.length) (fun i=>ini.length-i) 0 [] [] ?_ ?_ ?_
     ·((conv=>whnf);repeat (first | exact ⟨⟩ | (refine ⟨by first | rfl | (simp;done) | (simp;omega),?_⟩;conv=>whnf)))
     ·exact Nat.zero_le _
     ·intro i hi
      repeat (refine gw rfl ?_;conv=>whnf)
      rw [List.length_map]
      (split<;>rename_i hb<;>(try rw [hb])<;>(conv=>whnf))
      ·have hlt:i<ini.length:=by simpa using hb
       clear hb
       have hgt:=xw hlt
       have hj:=oj _ (List.getElem_mem hlt)
       repeat (refine gw rfl ?_;conv=>whnf)
       refine ⟨by omega,_,hgt,rfl,?_⟩
       conv=>whnf
       rw [show decide (ini[i]<0)=false from decide_eq_false (by omega)]
       conv=>whnf
       refine ⟨by omega,_,hgt,rfl,?_⟩
       conv=>whnf
       rw [show decide (ini[i]≥_)=false from decide_eq_false (by rw [List.length_map];omega)]
       conv=>whnf
       cases i with
       | zero=>
         conv=>whnf
         repeat (refine gw rfl ?_;conv=>whnf)
         refine ⟨by omega,?_⟩
         conv=>whnf
         refine ⟨1,[],[],?_,by omega,by omega⟩
         ((conv=>whnf);repeat (first | exact ⟨⟩ | (refine ⟨by first | rfl | (simp;done) | (simp;omega),?_⟩;conv=>whnf)))
       | succ i=>
         have h5:=List.pairwise_iff_getElem.1 aj i (i+1) (by omega) hlt (by omega)
         rw [show decide ((((i+1:Nat)):Int)>0)=true from decide_eq_true (by omega)]
         conv=>whnf
         refine ⟨by omega,_,hgt,rfl,?_⟩
         conv=>whnf
         refine ⟨by omega,?_⟩
         conv=>whnf
         refine ⟨by omega,_,by rw [show (((i+1:Nat):Int)-1)=(i:Nat) by omega];exact xw (show i<ini.length by omega),rfl,?_⟩
         conv=>whnf
         rw [show decide (ini[i+1]≤ini[i])=false from decide_eq_false (by omega)]
         conv=>whnf
         repeat (refine gw rfl ?_;conv=>whnf)
         refine ⟨by omega,?_⟩
         conv=>whnf
         refine ⟨i+2,[],[],?_,by omega,by omega⟩
         ((conv=>whnf);repeat (first | exact ⟨⟩ | (refine ⟨by first | rfl | (simp;done) | (simp;omega),?_⟩;conv=>whnf)))
      ·clear hb
       repeat (refine gw rfl ?_;conv=>whnf)
       rw [List.length_map,List.length_map,l1,beq_self_eq_true]
       conv=>whnf
       repeat (refine gw rfl ?_;conv=>whnf)
       rw [List.length_map,List.length_map,l2,beq_self_eq_true]
def gOf (l:List Ot):List Int:=l.map fun x=>x.2.2.2
def I8 (n:Nat) (x:Ot):Prop:=x.1<n∧0≤x.2.1∧x.2.1≤100∧x.2.2.1.name=[]∧x.2.2.1.args.length=0
def Ox (n:Nat) (x:Ot):Prop:=x.1<n∧x.2.1=0∧okT x.2.2.1∧fO false 4 x.2.2.1=true
theorem KQ {l:List Ot} {i:Nat} (h:i<l.length):gOf (l.take (i+1))=gOf (l.take i)++[l[i].2.2.2]:=by
 unfold gOf;rw [List.take_succ_eq_append_getElem h,List.map_append];rfl
theorem Po (l:List Ot):(gOf l).length=l.length:=List.length_map ..
set_option maxRecDepth 10000 in
theorem Tryz.Qx (gs:List Gt) (roles bases:List Tm) (ins:List In) (ini next legal:List Int) (gl sl:List Ot) (term:Int) (hid:Bool) (hb1:next.length≤1000) (hi1:legal.length≤100000) (hg1:gl.length≤100000) (hs1:sl.length≤100000)
  (og:∀ x∈gl,I8 roles.length x) (ag:gl.Pairwise fun a b=>a.1<b.1∨(a.1=b.1∧a.2.1<b.2.1)) (os:∀ x∈sl,Ox roles.length x) (as':sl.Pairwise fun a b=>a.1<b.1∨(a.1=b.1∧aO a.2.2.1 b.2.2.1<0))
  (ra:∀ x∈term::next++legal++gOf gl++gOf sl,0≤x∧x<(gs.length:Nat)) :
  Pure Tryz.prog 55 [(fQ gs roles bases ins ini next legal (gl.map aK) (sl.map aK) term hid)] [.bool true]:=by
 refine Pure.of_wp hT (nt:=_) (c:=_) Tryz.func55 rfl rfl rfl rfl (by kernel_rfl) ?_
 intro w0 ok0 β0
 repeat (refine gw rfl ?_;conv=>whnf)
 refine ⟨rfl,?_⟩
 conv=>whnf
 refine ⟨_,by rw [List.drop_zero,List.take_of_length_le (by simp)],by simp,?_⟩
 conv=>whnf
 refine ⟨fun y hy=>by obtain ⟨_,_,rfl⟩:=List.mem_map.1 hy;rfl,?_⟩
 conv=>whnf
 refine ⟨by show _*8≤_;rw [List.length_map,List.length_singleton];omega,?_⟩
 conv=>whnf
 refine ⟨_,by rw [List.drop_zero,← List.length_append,List.take_length],by rw [List.length_append];omega,?_⟩
 conv=>whnf
 refine ⟨fun y hy=>by obtain ⟨_,_,rfl⟩:=List.mem_map.1 hy;rfl,?_⟩
 conv=>whnf
 refine ⟨by show _*8≤_;simp only [List.length_append,List.length_map,List.length_singleton];omega,?_⟩
 conv=>whnf
 repeat (refine gw rfl ?_;conv=>whnf)
 obtain ⟨A,hA⟩:∃ A,A=term::next++legal:=⟨_,rfl⟩
 have hAl:A.length≤102000:=by rw [hA];simp only [List.length_append,List.length_cons];omega
 rw [← hA] at ra
 rw [show [D.int .i64 term]++List.map enI next++List.map enI legal=(A++gOf (gl.take 0)).map enI from by rw [hA];simp [gOf,List.length_append]<;>first | rfl | omega]
 rw [show ([D.int .i64 term]++List.map enI next).length+(List.map enI legal).length=(A++gOf (gl.take 0)).length from by rw [hA];simp [gOf,List.length_append]<;>first | rfl | omega]
 refine WP.loop (α:=Nat) (fun i=>⟨[(1,.d (.ref (fQ gs roles bases ins ini next legal (gl.map aK) (sl.map aK) term hid).cells 0)),(3,.sl 60 1 0 (A++gOf (gl.take i)).length),(4,.d (.int .i64 i))],[((60,0),some (.arr 1 ((A++gOf (gl.take i)).map enI)))],[60]⟩) (fun i=>i≤gl.length) (fun i=>gl.length-i) 0 [(60,some 19)] [] ?_ ?_ ?_
 ·((conv=>whnf);repeat (first | exact ⟨⟩ | (refine ⟨by first | rfl | (simp;done) | (simp;omega),?_⟩;conv=>whnf)))
 ·exact Nat.zero_le _
 ·intro i hi
  have hsu:=fun (h:i<gl.length)=>(congrArg (A++·) (KQ h)).trans (List.append_assoc A (gOf (gl.take i)) [gl[i].2.2.2]).symm
  have hBl:(A++gOf (gl.take i)).length≤202000:=by
   rw [List.length_append,Po,List.length_take];omega
  generalize hRe:A++gOf (gl.take i)=R at hsu hBl ⊢
  repeat (refine gw rfl ?_;conv=>whnf)
  rw [List.length_map]
  (split<;>rename_i hb<;>(try rw [hb])<;>(conv=>whnf))
  ·have hlt:i<gl.length:=by simpa using hb
   clear hb
   have hgt:=FZ hlt
   obtain ⟨f1,f2,f3,f4,f5⟩:=og _ (List.getElem_mem hlt)
   specialize hsu hlt
   have hpr:=fun j (h:j+1=i)=>List.pairwise_iff_getElem.1 ag j i (by omega) hlt (by omega)
   have hgp:=fun j (h:j+1=i)=>FZ (show j<gl.length by omega)
   generalize gl[i]=x at *
   repeat (refine gw rfl ?_;conv=>whnf)
   refine ⟨by omega,_,hgt,rfl,?_⟩
   conv=>whnf
   repeat (refine gw rfl ?_;conv=>whnf)
   (refine ⟨rfl,?_⟩;(conv=>whnf);refine ⟨_,(congrArg (List.take _) List.drop_zero).trans (List.take_of_length_le (by first | (simp;done) | (simp;omega))),by first | (simp;done) | (simp;omega),?_⟩;(conv=>whnf);refine ⟨_,rfl,Nat.le_refl _,?_⟩;(conv=>whnf);refine ⟨by show (_+1)*8≤_;first | (simp;done) | (simp;omega),?_⟩;(conv=>whnf))
   repeat (refine gw rfl ?_;conv=>whnf)
   rw [show decide (((x.1:Nat):Int)<0)=false from decide_eq_false (by omega)]
   conv=>whnf
   rw [show decide (((x.1:Nat):Int)≥(((roles.map enT).length:Nat):Int))=false from decide_eq_false (by rw [List.length_map];omega)]
   conv=>whnf
   rw [show decide (x.2.1<0)=false from decide_eq_false (by omega)]
   conv=>whnf
   rw [show decide (x.2.1>100)=false from decide_eq_false (by omega)]
   conv=>whnf
   rw [f4]
   conv=>whnf
   rw [List.length_map,f5]
   conv=>whnf
   repeat (refine gw rfl ?_;conv=>whnf)
   cases i with
   | zero=>
     conv=>whnf
     repeat (refine gw rfl ?_;conv=>whnf)
     refine ⟨by omega,?_⟩
     conv=>whnf
     refine ⟨1,[(60,some 36)],[],?_,by omega,by omega⟩
     rw [hsu,List.map_append,List.length_append]
     ((conv=>whnf);repeat (first | exact ⟨⟩ | (refine ⟨by first | rfl | (simp;done) | (simp;omega),?_⟩;conv=>whnf)))
   | succ i=>
     have h5:=hpr i rfl
     have hgq:=hgp i rfl
     rw [show decide ((((i+1:Nat)):Int)>0)=true from decide_eq_true (by omega)]
     conv=>whnf
     repeat (refine gw rfl ?_;conv=>whnf)
     refine ⟨by omega,?_⟩
     conv=>whnf
     refine ⟨by omega,_,by rw [show (((i+1:Nat):Int)-1)=(i:Nat) by omega];exact hgq,rfl,?_⟩
     conv=>whnf
     generalize gl[i]=y at h5
     repeat (refine gw rfl ?_;conv=>whnf)
     rcases h5 with h5 | ⟨h5,h6⟩
     ·rw [show decide (((y.1:Nat):Int)>((x.1:Nat):Int))=false from decide_eq_false (by omega)]
      conv=>whnf
      rw [show (((y.1:Nat):Int)==((x.1:Nat):Int))=false from beq_eq_false_iff_ne.2 (by omega)]
      conv=>whnf
      repeat (refine gw rfl ?_;conv=>whnf)
      refine ⟨by omega,?_⟩
      conv=>whnf
      refine ⟨i+2,[(60,some 36)],[],?_,by omega,by omega⟩
      rw [hsu,List.map_append,List.length_append]
      ((conv=>whnf);repeat (first | exact ⟨⟩ | (refine ⟨by first | rfl | (simp;done) | (simp;omega),?_⟩;conv=>whnf)))
     ·rw [show decide (((y.1:Nat):Int)>((x.1:Nat):Int))=false from decide_eq_false (by omega)]
      conv=>whnf
      rw [show (((y.1:Nat):Int)==((x.1:Nat):Int))=true from beq_iff_eq.2 (by omega)]
      conv=>whnf
      rw [show decide (y.2.1≥x.2.1)=false from decide_eq_false (by omega)]
      conv=>whnf
      repeat (refine gw rfl ?_;conv=>whnf)
      refine ⟨by omega,?_⟩
      conv=>whnf
      refine ⟨i+2,[(60,some 36)],[],?_,by omega,by omega⟩
      rw [hsu,List.map_append,List.length_append]
      ((conv=>whnf);repeat (first | exact ⟨⟩ | (refine ⟨by first | rfl | (simp;done) | (simp;omega),?_⟩;conv=>whnf)))
  ·have hie:i=gl.length:=by simp at hb;omega
   subst hie
   clear hb
   rw [List.take_length] at hRe
   repeat (refine gw rfl ?_;conv=>whnf)
   rw [show R.map enI=(R++gOf (sl.take 0)).map enI from by simp [gOf],show R.length=(R++gOf (sl.take 0)).length from by simp [gOf]]
   refine WP.loop (α:=Nat) (fun i=>⟨[(1,.d (.ref (fQ gs roles bases ins ini next legal (gl.map aK) (sl.map aK) term hid).cells 0)),(3,.sl 60 1 0 (R++gOf (sl.take i)).length),(7,.d (.int .i64 i))],[((60,0),some (.arr 1 ((R++gOf (sl.take i)).map enI)))],[60]⟩) (fun i=>i≤sl.length) (fun i=>sl.length-i) 0 [(60,some 60)] [] ?_ ?_ ?_
   ·((conv=>whnf);repeat (first | exact ⟨⟩ | (refine ⟨by first | rfl | (simp;done) | (simp;omega),?_⟩;conv=>whnf)))
   ·exact Nat.zero_le _
   ·intro i hi
    have hsu:=fun (h:i<sl.length)=>(congrArg (R++·) (KQ h)).trans (List.append_assoc R (gOf (sl.take i)) [sl[i].2.2.2]).symm
    have hSl:(R++gOf (sl.take i)).length≤302000:=by
     rw [List.length_append,Po,List.length_take];omega
    generalize hSe:R++gOf (sl.take i)=S at hsu hSl ⊢
    repeat (refine gw rfl ?_;conv=>whnf)
    rw [List.length_map]
    (split<;>rename_i hb<;>(try rw [hb])<;>(conv=>whnf))
    ·have hlt:i<sl.length:=by simpa using hb
     clear hb
     have hgt:=FZ hlt
     obtain ⟨f1,f2,f3,f4⟩:=os _ (List.getElem_mem hlt)
     specialize hsu hlt
     have hpr:=fun j (h:j+1=i)=>List.pairwise_iff_getElem.1 as' j i (by omega) hlt (by omega)
     have hgp:=fun j (h:j+1=i)=>FZ (show j<sl.length by omega)
     have hop:=fun j (h:j+1=i)=>(os _ (List.getElem_mem (show j<sl.length by omega))).2.2.1
     generalize sl[i]=x at *
     repeat (refine gw rfl ?_;conv=>whnf)
     refine ⟨by omega,_,hgt,rfl,?_⟩
     conv=>whnf
     repeat (refine gw rfl ?_;conv=>whnf)
     (refine ⟨rfl,?_⟩;(conv=>whnf);refine ⟨_,(congrArg (List.take _) List.drop_zero).trans (List.take_of_length_le (by first | (simp;done) | (simp;omega))),by first | (simp;done) | (simp;omega),?_⟩;(conv=>whnf);refine ⟨_,rfl,Nat.le_refl _,?_⟩;(conv=>whnf);refine ⟨by show (_+1)*8≤_;first | (simp;done) | (simp;omega),?_⟩;(conv=>whnf))
     repeat (refine gw rfl ?_;conv=>whnf)
     rw [show decide (((x.1:Nat):Int)<0)=false from decide_eq_false (by omega)]
     conv=>whnf
     rw [show decide (((x.1:Nat):Int)≥(((roles.map enT).length:Nat):Int))=false from decide_eq_false (by rw [List.length_map];omega)]
     conv=>whnf
     rw [f2]
     conv=>whnf
     refine .inl ⟨_,Tryz.xC x.2.2.1,.inl rfl,?_⟩
     rw [f4]
     conv=>whnf
     repeat (refine gw rfl ?_;conv=>whnf)
     cases i with
     | zero=>
       conv=>whnf
       repeat (refine gw rfl ?_;conv=>whnf)
       refine ⟨by omega,?_⟩
       conv=>whnf
       refine ⟨1,[(60,some 114)],[],?_,by omega,by omega⟩
       rw [hsu,List.map_append,List.length_append]
       ((conv=>whnf);repeat (first | exact ⟨⟩ | (refine ⟨by first | rfl | (simp;done) | (simp;omega),?_⟩;conv=>whnf)))
     | succ i=>
       have h5:=hpr i rfl
       have hgq:=hgp i rfl
       have oy:=hop i rfl
       rw [show decide ((((i+1:Nat)):Int)>0)=true from decide_eq_true (by omega)]
       conv=>whnf
       repeat (refine gw rfl ?_;conv=>whnf)
       refine ⟨by omega,?_⟩
       conv=>whnf
       refine ⟨by omega,_,by rw [show (((i+1:Nat):Int)-1)=(i:Nat) by omega];exact hgq,rfl,?_⟩
       conv=>whnf
       generalize sl[i]=y at h5 oy
       repeat (refine gw rfl ?_;conv=>whnf)
       rcases h5 with h5 | ⟨h5,h6⟩
       ·rw [show decide (((y.1:Nat):Int)>((x.1:Nat):Int))=false from decide_eq_false (by omega)]
        conv=>whnf
        rw [show (((y.1:Nat):Int)==((x.1:Nat):Int))=false from beq_eq_false_iff_ne.2 (by omega)]
        conv=>whnf
        repeat (refine gw rfl ?_;conv=>whnf)
        refine ⟨by omega,?_⟩
        conv=>whnf
        refine ⟨i+2,[(60,some 114)],[],?_,by omega,by omega⟩
        rw [hsu,List.map_append,List.length_append]
        ((conv=>whnf);repeat (first | exact ⟨⟩ | (refine ⟨by first | rfl | (simp;done) | (simp;omega),?_⟩;conv=>whnf)))
       ·rw [show decide (((y.1:Nat):Int)>((x.1:Nat):Int))=false from decide_eq_false (by omega)]
        conv=>whnf
        rw [show (((y.1:Nat):Int)==((x.1:Nat):Int))=true from beq_iff_eq.2 (by omega)]
        conv=>whnf
        refine .inl ⟨_,Tryz.oW y.2.2.1 x.2.2.1 oy f3,.inl rfl,?_⟩
        conv=>whnf
        rw [show decide (aO y.2.2.1 x.2.2.1≥0)=false from decide_eq_false (by omega)]
        conv=>whnf
        repeat (refine gw rfl ?_;conv=>whnf)
        refine ⟨by omega,?_⟩
        conv=>whnf
        refine ⟨i+2,[(60,some 114)],[],?_,by omega,by omega⟩
        rw [hsu,List.map_append,List.length_append]
        ((conv=>whnf);repeat (first | exact ⟨⟩ | (refine ⟨by first | rfl | (simp;done) | (simp;omega),?_⟩;conv=>whnf)))
    ·have hie:i=sl.length:=by simp at hb;omega
     subst hie
     clear hb
     rw [List.take_length] at hSe
     rw [hRe,hSe] at ra
     repeat (refine gw rfl ?_;conv=>whnf)
     refine WP.loop (α:=Nat) (fun i=>⟨[(1,.d (.ref (fQ gs roles bases ins ini next legal (gl.map aK) (sl.map aK) term hid).cells 0)),(3,.sl 60 1 0 S.length),(10,.d (.int .i64 i))],[((60,0),some (.arr 1 (S.map enI)))],[60]⟩) (fun i=>i≤S.length) (fun i=>S.length-i) 0 [(60,some 60)] [] ?_ ?_ ?_
     ·((conv=>whnf);repeat (first | exact ⟨⟩ | (refine ⟨by first | rfl | (simp;done) | (simp;omega),?_⟩;conv=>whnf)))
     ·exact Nat.zero_le _
     ·intro i hi
      repeat (refine gw rfl ?_;conv=>whnf)
      (split<;>rename_i hb<;>(try rw [hb])<;>(conv=>whnf))
      ·have hlt:i<S.length:=by simpa using hb
       clear hb
       have hs:=ra _ (List.getElem_mem hlt)
       have hg0:(S.map enI)[0+((i:Nat):Int).toNat]?=some (.int .i64 S[i]):=by rw [Nat.zero_add];exact xw hlt
       repeat (refine gw rfl ?_;conv=>whnf)
       refine ⟨⟨by omega,by omega⟩,?_⟩
       conv=>whnf
       refine ⟨_,hg0,?_⟩
       conv=>whnf
       rw [show decide (S[i]<0)=false from decide_eq_false (by omega)]
       conv=>whnf
       refine ⟨⟨by omega,by omega⟩,?_⟩
       conv=>whnf
       refine ⟨_,hg0,?_⟩
       conv=>whnf
       rw [show decide (S[i]≥_)=false from decide_eq_false (by rw [List.length_map];omega)]
       conv=>whnf
       repeat (refine gw rfl ?_;conv=>whnf)
       refine ⟨by omega,?_⟩
       conv=>whnf
       refine ⟨i+1,[(60,some 60)],[],?_,by omega,by omega⟩
       ((conv=>whnf);repeat (first | exact ⟨⟩ | (refine ⟨by first | rfl | (simp;done) | (simp;omega),?_⟩;conv=>whnf)))
      ·clear hb
       repeat (refine gw rfl ?_;conv=>whnf)
set_option maxRecDepth 10000 in
theorem Tryz.Wy (gs:List Gt) (roles bases:List Tm) (ins:List In) (ini next legal:List Int) (gl sl:List Ot) (term:Int) (hid:Bool) (hgl:gs.length≤16384)
  (hg:∀ i (hi:i<gs.length),Rx bases.length ins.length i gs[i]∧gs[i].2.2.length≤1000000)
  (c1:Pure Tryz.prog 53 [(fQ gs roles bases ins ini next legal (gl.map aK) (sl.map aK) term hid)] [.bool true]) (c2:Pure Tryz.prog 54 [(fQ gs roles bases ins ini next legal (gl.map aK) (sl.map aK) term hid)] [.bool true]) (c3:Pure Tryz.prog 55 [(fQ gs roles bases ins ini next legal (gl.map aK) (sl.map aK) term hid)] [.bool true]) :
  Pure Tryz.prog 16 [(fQ gs roles bases ins ini next legal (gl.map aK) (sl.map aK) term hid)] [.int .i64 0]:=by
 refine Pure.of_wp hT (nt:=_) (c:=_) Tryz.func16 rfl rfl rfl rfl (by kernel_rfl) ?_
 intro w0 ok0 β0
 repeat (refine gw rfl ?_;conv=>whnf)
 rw [List.length_map,show decide (((gs.length:Nat):Int)>16384)=false from decide_eq_false (by omega)]
 conv=>whnf
 repeat (refine gw rfl ?_;conv=>whnf)
 refine WP.loop (α:=Nat) (fun i=>⟨[(1,.d (.ref (fQ gs roles bases ins ini next legal (gl.map aK) (sl.map aK) term hid).cells 0)),(3,.d (.int .i64 i))],[],[]⟩) (fun i=>i≤gs.length) (fun i=>gs.length-i) 0 [] [] ?_ ?_ ?_
 ·((conv=>whnf);repeat (first | exact ⟨⟩ | (refine ⟨by first | rfl | (simp;done) | (simp;omega),?_⟩;conv=>whnf)))
 ·exact Nat.zero_le _
 ·intro i hi
  repeat (refine gw rfl ?_;conv=>whnf)
  rw [List.length_map]
  (split<;>rename_i hb<;>(try rw [hb])<;>(conv=>whnf))
  ·have hlt:i<gs.length:=by simpa using hb
   clear hb
   repeat (refine gw rfl ?_;conv=>whnf)
   refine .inl ⟨_,Tryz.XF gs roles bases ins ini next legal (gl.map aK) (sl.map aK) term hid i hlt (hg i hlt).1 (hg i hlt).2,.inl rfl,?_⟩
   conv=>whnf
   repeat (refine gw rfl ?_;conv=>whnf)
   refine ⟨by omega,?_⟩
   conv=>whnf
   refine ⟨i+1,[],[],?_,by omega,by omega⟩
   ((conv=>whnf);repeat (first | exact ⟨⟩ | (refine ⟨by first | rfl | (simp;done) | (simp;omega),?_⟩;conv=>whnf)))
  ·clear hb
   repeat (refine gw rfl ?_;conv=>whnf)
   refine .inl ⟨_,c1,.inl rfl,?_⟩
   conv=>whnf
   refine .inl ⟨_,c2,.inl rfl,?_⟩
   conv=>whnf
   refine .inl ⟨_,c3,.inl rfl,?_⟩
   conv=>whnf
   repeat (refine gw rfl ?_;conv=>whnf)
end Go.Proofs.YtdonenoiehdahaaGreat
namespace Go.Proofs.YtdonenoiehdahaaGreat
open Go Go.Abs Go.Own
theorem xG {β:Type} {key:β→Nat} {lt:β→β→Prop} {f:Tm×Nat→List β} (hk:∀ p,∀ x∈f p,key x=p.2) (hp:∀ p,(f p).Pairwise lt) :
  ∀ (names:List Tm) (k:Nat),((names.zipIdx k).flatMap f).Pairwise fun a b=>key a<key b∨(key a=key b∧lt a b)
 | [],_ => .nil
 | r::names,k=>by
   rw [List.zipIdx_cons,List.flatMap_cons,List.pairwise_append]
   refine ⟨?_,xG hk hp names (k+1),fun a ha b hb=>?_⟩
   ·refine (hp (r,k)).imp_of_mem fun {a b} ha hb h => .inr ⟨?_,h⟩
    rw [hk _ _ ha,hk _ _ hb]
   ·obtain ⟨p,hm,hb⟩:=List.mem_flatMap.1 hb
    have h1:=List.le_snd_of_mem_zipIdx hm
    left
    rw [hk _ _ ha,hk _ _ hb]
    show k<p.2
    omega
theorem TM {atoms:List Tm} (h:atoms.Pairwise fun a b=>aO a b<0) (names:List Tm):(kW atoms names).Pairwise fun a b=>a.1<b.1∨(a.1=b.1∧aO a.2 b.2<0):=
 xG (key:=fun x:In=>x.1) (lt:=fun a b:In=>aO a.2 b.2<0) (f:=nM atoms) (fun p x hx=>by obtain ⟨m,_,rfl⟩:=List.mem_map.1 hx;rfl)
  (fun p=>by unfold nM;rw [List.pairwise_map];exact jG h) names 0
theorem Qn {atoms:List Tm} {val:Mi} (h:atoms.Pairwise fun a b=>aO a b<0) (names:List Tm):(qp atoms val names).Pairwise fun a b=>a.1<b.1∨(a.1=b.1∧aO a.2.2.1 b.2.2.1<0):=
 xG (key:=fun x:Ot=>x.1) (lt:=fun a b:Ot=>aO a.2.2.1 b.2.2.1<0) (f:=wJ atoms val) (fun p x hx=>by obtain ⟨m,_,rfl⟩:=List.mem_map.1 hx;rfl)
  (fun p=>by unfold wJ;rw [List.pairwise_map];exact jG h) names 0
theorem JW {a b:Tm} (h:aO a b<0) (ha:bf a.name=true) (la:a.args.length=0) (hb:bf b.name=true) (lb:b.args.length=0):dF a.name<dF b.name:=by
 have c1:aJ a=0:=by unfold aJ;rw [if_pos la,if_pos ha]
 have c2:aJ b=0:=by unfold aJ;rw [if_pos lb,if_pos hb]
 rw [jV] at h
 unfold lex Og at h
 rw [c1,c2,if_neg (fun k=>k (ug _)),if_pos rfl] at h
 unfold Own.aS at h
 split at h
 ·assumption
 ·split at h<;>omega
theorem tN {atoms:List Tm} {val:Mi} {k:Nat} {r t:Tm} {x:Ot} (h:x∈gq atoms val k r t):bf t.name=true∧t.args.length=0∧dF t.name≤100∧x=(k,dF t.name,.mk [] [],ofV atoms val eU [r,t]):=by
 unfold gq at h
 split at h
 ·rename_i hc
  simp only [Bool.and_eq_true,decide_eq_true_eq] at hc
  exact ⟨hc.1.1,hc.1.2,hc.2,List.mem_singleton.1 h⟩
 ·cases h
theorem QS {atoms:List Tm} {val:Mi} {k:Nat} {r t:Tm} {p:Ot→Ot→Prop}:(gq atoms val k r t).Pairwise p:=by
 unfold gq
 split<;>simp
theorem OV {α β:Type} {f:α→List β} {p:α→α→Prop} {q:β→β→Prop} (h1:∀ a,(f a).Pairwise q) (h2:∀ a b,p a b→∀ x∈f a,∀ y∈f b,q x y):∀ {l:List α},l.Pairwise p→(l.flatMap f).Pairwise q
 | [],_ => .nil
 | a::l,h=>by
   have h:=List.pairwise_cons.1 h
   rw [List.flatMap_cons,List.pairwise_append]
   refine ⟨h1 a,OV h1 h2 h.2,fun x hx y hy=>?_⟩
   obtain ⟨b,hb,hy⟩:=List.mem_flatMap.1 hy
   exact h2 a b (h.1 b hb) x hx y hy
theorem NT {atoms:List Tm} {val:Mi} (h:atoms.Pairwise fun a b=>aO a b<0) (names:List Tm):(kD atoms val names).Pairwise fun a b=>a.1<b.1∨(a.1=b.1∧a.2.1<b.2.1):=
 xG (key:=fun x:Ot=>x.1) (lt:=fun a b:Ot=>a.2.1<b.2.1) (f:=mY atoms val) (fun p x hx=>by
   obtain ⟨m,_,hm⟩:=List.mem_flatMap.1 hx
   rw [(tN hm).2.2.2])
  (fun p=>by
   unfold mY
   refine OV (fun a=>QS) (fun a b hab x hx y hy=>?_) (jG h)
   obtain ⟨h1,h2,_,rfl⟩:=tN hx
   obtain ⟨h3,h4,_,rfl⟩:=tN hy
   exact JW hab h1 h2 h3 h4) names 0
theorem zI (s:Str):0≤dF s:=by
 unfold dF
 split
 ·rename_i h
  unfold bf at h
  simp only [Bool.and_eq_true,decide_eq_true_eq] at h
  exact (ru h.1.1.2 h.2).1
 ·exact Int.le_refl _
theorem CY {atoms:List Tm} {val:Mi} {names:List Tm} {x:Ot} (h:x∈kD atoms val names):I8 names.length x∧∃ args,x.2.2.2=ofV atoms val eU args:=by
 obtain ⟨p,hp,h⟩:=List.mem_flatMap.1 h
 obtain ⟨m,_,hm⟩:=List.mem_flatMap.1 h
 obtain ⟨_,_,h3,rfl⟩:=tN hm
 exact ⟨⟨x9 p hp,zI _,h3,rfl,rfl⟩,_,rfl⟩
theorem Fp {atoms:List Tm} {val:Mi} {names:List Tm} (hok:∀ x∈atoms,okT x) (hg:∀ x∈atoms,fO false 4 x=true) {x:Ot} (h:x∈qp atoms val names):Ox names.length x∧∃ args,x.2.2.2=ofV atoms val gB args:=by
 obtain ⟨p,hp,h⟩:=List.mem_flatMap.1 h
 obtain ⟨m,hm,rfl⟩:=List.mem_map.1 h
 obtain ⟨t,ht,hx⟩:=jL hm
 exact ⟨⟨x9 p hp,rfl,(aU.1 (hok t ht)).2 m hx,qL hg m hm⟩,_,rfl⟩
theorem TL {atoms:List Tm} {names:List Tm} (hok:∀ x∈atoms,okT x) (hg:∀ x∈atoms,fO false 4 x=true) {x:In} (h:x∈kW atoms names):okT x.2∧fO false 4 x.2=true∧x.1<names.length:=by
 obtain ⟨p,hp,h⟩:=List.mem_flatMap.1 h
 obtain ⟨m,hm,rfl⟩:=List.mem_map.1 h
 obtain ⟨t,ht,hx⟩:=jL hm
 exact ⟨(aU.1 (hok t ht)).2 m hx,qL hg m hm,x9 p hp⟩
theorem Oj {atoms:List Tm} (hok:∀ x∈atoms,okT x) (hg:∀ x∈atoms,fO false 4 x=true) {x:Tm} (h:x∈aZ atoms):okT x∧fO false 4 x=true:=by
 obtain ⟨t,ht,hx⟩:=jL h
 exact ⟨(aU.1 (hok t ht)).2 x hx,qL hg x h⟩
theorem QE {atoms:List Tm} {hold:List Int} {bases:List Tm}:(∀ x∈uN atoms hold bases,0≤x∧x<(bases.length:Nat))∧(uN atoms hold bases).Pairwise (·<·)∧(uN atoms hold bases).length≤bases.length:=by
 unfold uN
 refine ⟨fun x hx=>?_,?_,?_⟩
 ·obtain ⟨p,hp,rfl⟩:=List.mem_map.1 hx
  have:=x9 p (List.mem_filter.1 hp).1
  omega
 ·rw [List.pairwise_map]
  refine List.Pairwise.filter _ ?_
  rw [List.pairwise_iff_getElem]
  intro i j hi hj hij
  rw [List.getElem_zipIdx,List.getElem_zipIdx]
  dsimp only
  omega
 ·rw [List.length_map]
  exact Nat.le_trans (List.length_filter_le _ _) (by rw [List.length_zipIdx];exact Nat.le_refl _)
theorem Vx {atoms:List Tm} {val:Mi} {k:Nat} (h:iR val k) (h0:0<k) (name:Str) (args:List Tm):0≤ofV atoms val name args∧ofV atoms val name args<(k:Nat):=by
 unfold ofV
 split
 ·exact ⟨Int.le_refl _,by omega⟩
 ·exact h.val h0
theorem CX (atoms:List Tm) (val:Mi):∀ (names:List Tm) (k:Nat),((names.zipIdx k).flatMap (mY atoms val)).length≤names.length*atoms.length
 | [],_=>Nat.zero_le _
 | r::names,k=>by
   rw [List.zipIdx_cons,List.flatMap_cons,List.length_append,List.length_cons,Nat.succ_mul]
   have h1:=CX atoms val names (k+1)
   have h2:∀ l:List Tm,(l.flatMap (gq atoms val k r)).length≤l.length:=fun l=>by
    induction l with
    | nil=>exact Nat.le_refl _
    | cons x l ih=>
      rw [List.flatMap_cons,List.length_append,List.length_cons]
      have:(gq atoms val k r x).length≤1:=by unfold gq;split<;>simp
      omega
   have h3:(mY atoms val (r,k)).length≤atoms.length:=Nat.le_trans (h2 _) gy
   omega
theorem Fj (atoms:List Tm) (val:Mi):∀ (names:List Tm) (k:Nat),((names.zipIdx k).flatMap (wJ atoms val)).length≤names.length*atoms.length
 | [],_=>Nat.zero_le _
 | r::names,k=>by
   rw [List.zipIdx_cons,List.flatMap_cons,List.length_append,List.length_cons,Nat.succ_mul]
   have h1:=Fj atoms val names (k+1)
   have h3:(wJ atoms val (r,k)).length≤atoms.length:=by unfold wJ;rw [List.length_map];exact gy
   omega
end Go.Proofs.YtdonenoiehdahaaGreat
namespace Go.Proofs.YtdonenoiehdahaaGreat
open Go Go.Abs Go.Own
attribute [local irreducible] WP
theorem Em.fit {nb ni i:Nat} {g:Gt} (h:Em nb ni i g):Rx nb ni i g:=by
 cases h with
 | fls=>exact ⟨by simp,by simp,by simp,by simp,.nil,by simp⟩
 | tru=>exact ⟨by simp,by simp,by simp,by simp,.nil,by simp⟩
 | base k h=>exact ⟨by simp,by simp,by simp;omega,by simp,.nil,by simp⟩
 | inp k h=>exact ⟨by simp,by simp,by simp;omega,by simp,.nil,by simp⟩
 | two kind l hk hl ha hr=>
   have:1≤l.length:=by rcases l with _ | _<;>simp at *
   rcases hk with rfl | rfl
   ·exact ⟨by simp,by simp,by simp,by simp;omega,ha,hr⟩
   ·exact ⟨by simp,by simp,by simp,by simp;omega,ha,hr⟩
 | neg x hx=>exact ⟨by simp,by simp,by simp,by simp,by simp,by simpa using hx⟩
theorem Rq {l:List Int} (h:l.Pairwise (·<·)):l.Nodup:=by
 rw [List.nodup_iff_pairwise_ne]
 exact h.imp fun h e=>by omega
theorem QV {nb ni:Nat} {gs:List Gt} (h:Oz nb ni gs) (hl:gs.length≤16384):∀ i (hi:i<gs.length),Rx nb ni i gs[i]∧gs[i].2.2.length≤1000000:=fun i hi=>by
 have h1:=(h i hi).fit
 exact ⟨h1,Nat.le_trans (JZ (Rq h1.asc) h1.ran) (by omega)⟩
theorem Pn {atoms:List Tm} {rules:List Gr} (h:eH atoms.length rules):∀ r∈rules,En atoms.length r:=fun r hr=>h.body r hr
theorem OJ {atoms names:List Tm} {rules:List Gr} {G:List (List Nat)} (hin:eH atoms.length rules) (hR:bG names=true):(csN atoms rules names G).1.1.length≤iI atoms.length rules G:=by
 have h1:=(UA (names:=names) (G:=G) (Pn hin)).2.2.2
 have h2:=UQ (atoms:=atoms) hR
 unfold iI
 omega
structure LY (gs:List Gt) (roles bases:List Tm) (ins:List In) (ini next legal:List Int) (gl sl:List Ot) (term:Int):Prop where
 len:gs.length≤16384
 gates:∀ i (hi:i<gs.length),Rx bases.length ins.length i gs[i]∧gs[i].2.2.length≤1000000
 r1:1≤roles.length
 r4:roles.length≤4
 rol:∀ i (hi:i<roles.length),roles[i].args.length=0∧nameB roles[i].name=true∧∀ k (hk:k<i),roles[k].name≠roles[i].name
 b1:bases.length≤1000
 i1:ins.length≤1000
 n1:ini.length≤1000
 bs:∀ x∈bases,okT x∧fO false 4 x=true
 ba:bases.Pairwise fun a b=>aO a b<0
 is:∀ x∈ins,okT x.2∧fO false 4 x.2=true∧x.1<roles.length
 ia:ins.Pairwise fun a b=>a.1<b.1∨(a.1=b.1∧aO a.2 b.2<0)
 ns:∀ x∈ini,0≤x∧x<(bases.length:Nat)
 na:ini.Pairwise (·<·)
 x1:next.length=bases.length
 x2:legal.length=ins.length
 g1:gl.length≤1000
 s1:sl.length≤1000
 gf:∀ x∈gl,I8 roles.length x
 ga:gl.Pairwise fun a b=>a.1<b.1∨(a.1=b.1∧a.2.1<b.2.1)
 sf:∀ x∈sl,Ox roles.length x
 sa:sl.Pairwise fun a b=>a.1<b.1∨(a.1=b.1∧aO a.2.2.1 b.2.2.1<0)
 ran:∀ x∈term::next++legal++gOf gl++gOf sl,0≤x∧x<(gs.length:Nat)
theorem Tryz.checkN {gs:List Gt} {roles bases:List Tm} {ins:List In} {ini next legal:List Int} {gl sl:List Ot} {term:Int} (hid:Bool) (h:LY gs roles bases ins ini next legal gl sl term) :
  Pure Tryz.prog 16 [(fQ gs roles bases ins ini next legal (gl.map aK) (sl.map aK) term hid)] [.int .i64 0]:=
 Tryz.Wy gs roles bases ins ini next legal gl sl term hid h.len h.gates (Tryz.Vl gs roles bases ins ini next legal (gl.map aK) (sl.map aK) term hid h.r1 h.r4 h.rol)
  (Tryz.VJ gs roles bases ins ini next legal (gl.map aK) (sl.map aK) term hid h.b1 (Nat.le_trans h.i1 (by decide)) (Nat.le_trans h.n1 (by decide)) h.bs h.ba h.is h.ia h.ns h.na h.x1 h.x2)
  (Tryz.Qx gs roles bases ins ini next legal gl sl term hid (by rw [h.x1];exact h.b1) (by rw [h.x2];exact Nat.le_trans h.i1 (by decide)) (Nat.le_trans h.g1 (by decide)) (Nat.le_trans h.s1 (by decide)) h.gf h.ga h.sf h.sa h.ran)
theorem Tt {atoms names:List Tm} {rules:List Gr} {G:List (List Nat)} (hold:List Int) (hv:aP atoms rules=true) (hok:∀ x∈atoms,okT x) (hn:atoms.length≤64) (hR:bG names=true) (hs:iI atoms.length rules G≤16384) :
  LY (csN atoms rules names G).1.1 names (aZ atoms) (kW atoms names) (uN atoms hold (aZ atoms)) (nextL atoms (csN atoms rules names G).2 (aZ atoms)) (jr atoms (csN atoms rules names G).2 names (kW atoms names)) (kD atoms (csN atoms rules names G).2 names) (qp atoms (csN atoms rules names G).2 names) (ofV atoms (csN atoms rules names G).2 iy []):=by
 have hin:=eP hv
 have hsz:=OJ (G:=G) hin hR
 obtain ⟨h1,h2,h3,_⟩:=UA (names:=names) (G:=G) (Pn hin)
 have hbi:=UQ (atoms:=atoms) hR
 have hac:=GX hv
 have hgr:∀ x∈atoms,fO false 4 x=true:=fun x hx=>(Ec hv x hx).1
 have hR2:1≤names.length∧names.length≤4:=by
  unfold bG at hR
  simp only [Bool.and_eq_true,decide_eq_true_eq] at hR
  exact hR.1
 have hi:=QE (atoms:=atoms) (hold:=hold) (bases:=aZ atoms)
 have hgl:=CX atoms (csN atoms rules names G).2 names 0
 have hsl:=Fj atoms (csN atoms rules names G).2 names 0
 have h256:names.length*atoms.length≤4*64:=Nat.mul_le_mul hR2.2 hn
 have hlen:(csN atoms rules names G).1.1.length≤16384:=Nat.le_trans hsz hs
 generalize csN atoms rules names G=c at *
 have hof:=fun nm ar=>Vx (atoms:=atoms) h2 (by omega) nm ar
 exact {
  len:=hlen
  gates:=QV h1 hlen
  r1:=hR2.1
  r4:=hR2.2
  rol:=fun i hi=>pF hR hi
  b1:=by omega
  i1:=by omega
  n1:=by omega
  bs:=fun x hx=>Oj hok hgr hx
  ba:=Et hac
  is:=fun x hx=>TL hok hgr hx
  ia:=TM hac names
  ns:=hi.1
  na:=hi.2.1
  x1:=by unfold nextL;rw [List.length_map]
  x2:=by unfold jr;rw [List.length_map]
  g1:=by unfold kD;omega
  s1:=by unfold qp;omega
  gf:=fun x hx=>(CY hx).1
  ga:=NT hac names
  sf:=fun x hx=>(Fp hok hgr hx).1
  sa:=Qn hac names
  ran:=fun x hx=>by
   rcases List.mem_append.1 hx with hx | hx
   ·rcases List.mem_append.1 hx with hx | hx
    ·rcases List.mem_append.1 hx with hx | hx
     ·rcases List.mem_cons.1 hx with rfl | hx
      ·exact hof _ _
      ·obtain ⟨t,_,rfl⟩:=List.mem_map.1 hx
       exact hof _ _
     ·obtain ⟨t,_,rfl⟩:=List.mem_map.1 hx
      exact hof _ _
    ·obtain ⟨t,ht,rfl⟩:=List.mem_map.1 hx
     obtain ⟨ar,e⟩:=(CY ht).2
     rw [e];exact hof _ _
   ·obtain ⟨t,ht,rfl⟩:=List.mem_map.1 hx
    obtain ⟨ar,e⟩:=(Fp hok hgr ht).2
    rw [e];exact hof _ _ }
end Go.Proofs.YtdonenoiehdahaaGreat
namespace Go.Own
def inI (l:List Int) (n:Int):Bool:=l.any fun x=>x==n
def Ph (st inp:List Int) (g:Gt):Bool:=if g.1=3 then inI inp g.2.1 else if g.1=2 then inI st g.2.1 else (decide (g.1=1)||decide (g.1=4))
def vX (out:List Bool) (k:Int):Bool:=out.getD k.toNat false
def Jr (out:List Bool) (kind:Int) (v:Bool) (k:Int):Bool:=if kind=4 then v&&vX out k else if kind=5 then v||vX out k else if kind=6 then !vX out k else v
theorem RJ (out:List Bool) (kind:Int) (v:Bool) (k:Int):Jr out kind v k=if kind=4 then v&&vX out k else if kind=5 then v||vX out k else if kind=6 then !vX out k else v:=rfl
def Uh (st inp:List Int) (out:List Bool) (g:Gt):Bool:=g.2.2.foldl (Jr out g.1) (Ph st inp g)
def Ht (st inp:List Int) (out:List Bool) (g:Gt):List Bool:=out++[Uh st inp out g]
def valsF (st inp:List Int) (gs:List Gt):List Bool:=gs.foldl (Ht st inp) []
theorem EU (st inp:List Int) (gs:List Gt):(valsF st inp gs).length=gs.length:=by
 have:∀ (l:List Gt) (o:List Bool),(l.foldl (Ht st inp) o).length=o.length+l.length:=fun l=>by
  induction l with
  | nil=>intro o;rfl
  | cons g l ih=>intro o;rw [List.foldl_cons,ih];simp [Ht];omega
 unfold valsF;rw [this];simp
end Go.Own
namespace Go.Proofs.YtdonenoiehdahaaGreat
open Go Go.Abs Go.Own
attribute [local irreducible] WP
theorem Tryz.Yy (l:List Int) (n:Int) (hl:l.length≤1000000):Pure Tryz.prog 62 [.list (l.map enI),.int .i64 n] [.bool (inI l n)]:=by
 refine Pure.of_wp hT (nt:=_) (c:=_) Tryz.func62 rfl rfl rfl rfl (by kernel_rfl) ?_
 intro w0 ok0 β0
 repeat (refine gw rfl ?_;conv=>whnf)
 refine WP.loop (α:=Nat) (fun i=>⟨[(0,.d (.list (l.map enI))),(1,.d (.int .i64 n)),(5,.d (.int .i64 i))],[],[]⟩) (fun i=>i≤l.length∧∀ j (hj:j<l.length),j<i→(l[j]==n)=false) (fun i=>l.length-i) 0 [] [] ?_ ?_ ?_
 ·((conv=>whnf);repeat (first | exact ⟨⟩ | (refine ⟨by first | rfl | (simp;done) | (simp;omega),?_⟩;conv=>whnf)))
 ·exact ⟨Nat.zero_le _,fun j _ hj=>by omega⟩
 ·rintro i ⟨hi,ht⟩
  repeat (refine gw rfl ?_;conv=>whnf)
  rw [List.length_map]
  (split<;>rename_i hb<;>(try rw [hb])<;>(conv=>whnf))
  ·have hlt:i<l.length:=by simpa using hb
   clear hb
   repeat (refine gw rfl ?_;conv=>whnf)
   refine ⟨by omega,_,xw hlt,rfl,?_⟩
   conv=>whnf
   repeat (refine gw rfl ?_;conv=>whnf)
   cases hx:l[i]==n with
   | true=>
     rw [show inI l n=true from List.any_eq_true.2 ⟨_,List.getElem_mem hlt,hx⟩]
     conv=>whnf
     repeat (refine gw rfl ?_;conv=>whnf)
   | false=>
     conv=>whnf
     repeat (refine gw rfl ?_;conv=>whnf)
     refine ⟨by omega,?_⟩
     conv=>whnf
     refine ⟨i+1,[],[],?_,⟨by omega,fun j hj hji=>?_⟩,by omega⟩
     ·((conv=>whnf);repeat (first | exact ⟨⟩ | (refine ⟨by first | rfl | (simp;done) | (simp;omega),?_⟩;conv=>whnf)))
     ·rcases Nat.lt_or_ge j i with h' | h'
      ·exact ht j hj h'
      ·obtain rfl:j=i:=by omega
       exact hx
  ·have hie:i=l.length:=by simp at hb;omega
   subst hie
   clear hb
   rw [show inI l n=false from List.any_eq_false.2 fun x hx=>by
    obtain ⟨j,hj,rfl⟩:=List.mem_iff_getElem.1 hx
    rw [ht j hj hj];simp]
   repeat (refine gw rfl ?_;conv=>whnf)
theorem Tryz.FP (l:List Int) (n:Nat) (hl:l.length≤1000000) (hr:∀ x∈l,0≤x∧x<(n:Int)) (ha:l.Pairwise (·<·)):Pure Tryz.prog 61 [.list (l.map enI),.int .i64 n] [.bool true]:=by
 refine Pure.of_wp hT (nt:=_) (c:=_) Tryz.func61 rfl rfl rfl rfl (by kernel_rfl) ?_
 intro w0 ok0 β0
 repeat (refine gw rfl ?_;conv=>whnf)
 refine WP.loop (α:=Nat) (fun i=>⟨[(0,.d (.list (l.map enI))),(1,.d (.int .i64 n)),(5,.d (.int .i64 i))],[],[]⟩) (fun i=>i≤l.length) (fun i=>l.length-i) 0 [] [] ?_ ?_ ?_
 ·((conv=>whnf);repeat (first | exact ⟨⟩ | (refine ⟨by first | rfl | (simp;done) | (simp;omega),?_⟩;conv=>whnf)))
 ·exact Nat.zero_le _
 ·intro i hi
  repeat (refine gw rfl ?_;conv=>whnf)
  rw [List.length_map]
  (split<;>rename_i hb<;>(try rw [hb])<;>(conv=>whnf))
  ·have hlt:i<l.length:=by simpa using hb
   clear hb
   have hgt:=xw hlt
   have hj:=hr _ (List.getElem_mem hlt)
   repeat (refine gw rfl ?_;conv=>whnf)
   refine ⟨by omega,_,hgt,rfl,?_⟩
   conv=>whnf
   rw [show decide (l[i]<0)=false from decide_eq_false (by omega)]
   conv=>whnf
   refine ⟨by omega,_,hgt,rfl,?_⟩
   conv=>whnf
   rw [show decide (l[i]≥((n:Nat):Int))=false from decide_eq_false (by omega)]
   conv=>whnf
   cases i with
   | zero=>
     conv=>whnf
     repeat (refine gw rfl ?_;conv=>whnf)
     refine ⟨by omega,?_⟩
     conv=>whnf
     refine ⟨1,[],[],?_,by omega,by omega⟩
     ((conv=>whnf);repeat (first | exact ⟨⟩ | (refine ⟨by first | rfl | (simp;done) | (simp;omega),?_⟩;conv=>whnf)))
   | succ i=>
     have h5:=List.pairwise_iff_getElem.1 ha i (i+1) (by omega) hlt (by omega)
     rw [show decide ((((i+1:Nat)):Int)>0)=true from decide_eq_true (by omega)]
     conv=>whnf
     refine ⟨by omega,_,hgt,rfl,?_⟩
     conv=>whnf
     refine ⟨by omega,?_⟩
     conv=>whnf
     refine ⟨by omega,_,by rw [show (((i+1:Nat):Int)-1)=(i:Nat) by omega];exact xw (show i<l.length by omega),rfl,?_⟩
     conv=>whnf
     rw [show decide (l[i+1]≤l[i])=false from decide_eq_false (by omega)]
     conv=>whnf
     repeat (refine gw rfl ?_;conv=>whnf)
     refine ⟨by omega,?_⟩
     conv=>whnf
     refine ⟨i+2,[],[],?_,by omega,by omega⟩
     ((conv=>whnf);repeat (first | exact ⟨⟩ | (refine ⟨by first | rfl | (simp;done) | (simp;omega),?_⟩;conv=>whnf)))
  ·clear hb
   repeat (refine gw rfl ?_;conv=>whnf)
set_option maxRecDepth 10000 in
theorem Tryz.Rz (gs:List Gt) (roles bases:List Tm) (ins:List In) (ini next legal:List Int) (gl sl:List Ot) (term:Int) (hid:Bool) (st inp:List Int) (hgl:gs.length≤16384)
  (hg:∀ i (hi:i<gs.length),Rx bases.length ins.length i gs[i]∧gs[i].2.2.length≤1000000)
  (hC:Pure Tryz.prog 16 [(fQ gs roles bases ins ini next legal (gl.map aK) (sl.map aK) term hid)] [.int .i64 0]) (hs:st.length≤1000000) (hi:inp.length≤1000000)
  (r1:∀ x∈st,0≤x∧x<(bases.length:Int)) (a1:st.Pairwise (·<·)) (r2:∀ x∈inp,0≤x∧x<(ins.length:Int)) (a2:inp.Pairwise (·<·)) :
  Pure Tryz.prog 22 [(fQ gs roles bases ins ini next legal (gl.map aK) (sl.map aK) term hid),.list (st.map enI),.list (inp.map enI)] [.list ((valsF st inp gs).map D.bool),.int .i64 0]:=by
 have hN1:Pure Tryz.prog 61 [.list (st.map enI),.int .i64 ((bases.map enT).length:Nat)] [.bool true]:=by
  rw [List.length_map];exact Tryz.FP st bases.length hs r1 a1
 have hN2:Pure Tryz.prog 61 [.list (inp.map enI),.int .i64 ((ins.map eu).length:Nat)] [.bool true]:=by
  rw [List.length_map];exact Tryz.FP inp ins.length hi r2 a2
 refine Pure.of_wp hT (nt:=_) (c:=_) Tryz.func22 rfl rfl rfl rfl (by kernel_rfl) ?_
 intro w0 ok0 β0
 repeat (refine gw rfl ?_;conv=>whnf)
 refine .inl ⟨_,hC,.inl rfl,?_⟩
 conv=>whnf
 repeat (refine gw rfl ?_;conv=>whnf)
 refine .inl ⟨_,hN1,.inl rfl,?_⟩
 conv=>whnf
 repeat (refine gw rfl ?_;conv=>whnf)
 refine .inl ⟨_,hN2,.inl rfl,?_⟩
 conv=>whnf
 repeat (refine gw rfl ?_;conv=>whnf)
 refine WP.loop (α:=Nat) (fun i=>⟨[(1,.d (.list (st.map enI))),(2,.d (.list (inp.map enI))),(3,.d (.ref (fQ gs roles bases ins ini next legal (gl.map aK) (sl.map aK) term hid).cells 0)),(8,.sl 60 1 0 i),(9,.d (.int .i64 i))],[((60,0),some (.arr 1 ((valsF st inp (gs.take i)).map D.bool)))],[60]⟩) (fun i=>i≤gs.length) (fun i=>gs.length-i) 0 [(60,none)] [] ?_ ?_ ?_
 ·((conv=>whnf);repeat (first | exact ⟨⟩ | (refine ⟨by first | rfl | (simp;done) | (simp;omega),?_⟩;conv=>whnf)))
 ·exact Nat.zero_le _
 ·intro i hi
  have hvs:=fun (h:i<gs.length)=>show valsF st inp (gs.take (i+1))=valsF st inp (gs.take i)++[Uh st inp (valsF st inp (gs.take i)) gs[i]] from aY (Ht st inp) [] gs h
  have hol:(valsF st inp (gs.take i)).length=i:=by rw [EU,List.length_take];omega
  generalize hoe:valsF st inp (gs.take i)=out at hvs hol ⊢
  repeat (refine gw rfl ?_;conv=>whnf)
  rw [List.length_map]
  (split<;>rename_i hb<;>(try rw [hb])<;>(conv=>whnf))
  ·have hlt:i<gs.length:=by simpa using hb
   clear hb
   have hgt:=WT hlt
   obtain ⟨hF,hL⟩:=hg i hlt
   specialize hvs hlt
   generalize gs[i]=g at hvs hgt hF hL
   obtain ⟨kind,idx,L⟩:=g
   obtain ⟨hk,_,_,_,_,h4⟩:=hF
   dsimp only at hk h4 hL hgt
   obtain ⟨kd,hkd⟩:∃ kd,kd=kind:=⟨_,rfl⟩
   rw [← hkd] at hvs
   repeat (refine gw rfl ?_;conv=>whnf)
   refine ⟨by omega,_,hgt,rfl,?_⟩
   conv=>whnf
   repeat (refine gw rfl ?_;conv=>whnf)
   rcases hk with rfl | rfl | rfl | rfl | rfl | rfl | rfl
   all_goals repeat (refine gw rfl ?_;conv=>whnf)
   all_goals try
    refine .inl ⟨_,Tryz.Yy _ idx (by assumption),.inl rfl,?_⟩
    conv=>whnf
    repeat (refine gw rfl ?_;conv=>whnf)
   all_goals
    refine WP.loop (α:=Nat) (fun k=>⟨[(1,.d (.list (st.map enI))),(2,.d (.list (inp.map enI))),(3,.d (.ref (fQ gs roles bases ins ini next legal (gl.map aK) (sl.map aK) term hid).cells 0)),(8,.sl 60 1 0 i),(9,.d (.int .i64 i)),(10,.ptr 10 0),(11,.d (.bool ((L.take k).foldl (Jr out kd) (Ph st inp (kd,idx,L))))),(12,.d (.int .i64 k))],[((60,0),some (.arr 1 (out.map D.bool))),((10,0),some (.cell (.d (.int .i64 kd)))),((10,2),some (.cell (.d (.list (L.map enI)))))],[60,10]⟩) (fun k=>k≤L.length) (fun k=>L.length-k) 0 [(60,some 60),(10,some 10)] [] ?_ ?_ ?_
    ·rw [hkd]
     ((conv=>whnf);repeat (first | exact ⟨⟩ | (refine ⟨by first | rfl | (simp;done) | (simp;omega),?_⟩;conv=>whnf)))
    ·exact Nat.zero_le _
    ·intro k hk
     have hfs:=fun (h:k<L.length)=>aY (Jr out kd) (Ph st inp (kd,idx,L)) L h
     generalize hve:(L.take k).foldl (Jr out kd) (Ph st inp (kd,idx,L))=v at hfs ⊢
     repeat (refine gw rfl ?_;conv=>whnf)
     rw [List.length_map]
     (split<;>rename_i hb<;>(try rw [hb])<;>(conv=>whnf))
     ·have hlk:k<L.length:=by simpa using hb
      clear hb
      specialize hfs hlk
      have hx:=h4 _ (List.getElem_mem hlk)
      have hgk:=xw hlk
      generalize L[k]=y at hfs hx hgk
      have hgo:(out.map D.bool)[0+y.toNat]?=some (.bool (vX out y)):=by
       rw [Nat.zero_add,List.getElem?_map,List.getElem?_eq_getElem (by omega)]
       unfold vX
       simp [show y.toNat<out.length by omega]
      rw [RJ] at hfs
      generalize vX out y=x at hfs hgo
      rw [hkd] at hfs
      repeat (refine gw rfl ?_;conv=>whnf)
      refine ⟨by omega,_,hgk,rfl,?_⟩
      conv=>whnf
      refine ⟨⟨by omega,by omega⟩,?_⟩
      conv=>whnf
      refine ⟨_,hgo,?_⟩
      conv=>whnf
      rw [hkd]
      repeat (refine gw rfl ?_;conv=>whnf)
      cases v
      all_goals
       conv=>whnf
       repeat (refine gw rfl ?_;conv=>whnf)
       refine ⟨by omega,?_⟩
       conv=>whnf
       refine ⟨k+1,[(60,some 60),(10,some 10)],[],?_,by omega,by omega⟩
       rw [hfs]
       ((conv=>whnf);repeat (first | exact ⟨⟩ | (refine ⟨by first | rfl | (simp;done) | (simp;omega),?_⟩;conv=>whnf)))
     ·have hke:k=L.length:=by simp at hb;omega
      subst hke
      clear hb hfs
      rw [List.take_length] at hve
      rw [show Uh st inp out (kd,idx,L)=v from hve] at hvs
      repeat (refine gw rfl ?_;conv=>whnf)
      (refine ⟨rfl,?_⟩;(conv=>whnf);refine ⟨_,(congrArg (List.take _) List.drop_zero).trans (List.take_of_length_le (by first | (simp;done) | (simp;omega))),by first | (simp;done) | (simp;omega),?_⟩;(conv=>whnf);refine ⟨_,rfl,Nat.le_refl _,?_⟩;(conv=>whnf);refine ⟨by show (_+1)*1≤_;first | (simp;done) | (simp;omega),?_⟩;(conv=>whnf))
      repeat (refine gw rfl ?_;conv=>whnf)
      refine ⟨by omega,?_⟩
      conv=>whnf
      refine ⟨i+1,[(60,some 100)],[],?_,by omega,by omega⟩
      rw [hvs,List.map_append]
      ((conv=>whnf);repeat (first | exact ⟨⟩ | (refine ⟨by first | rfl | (simp;done) | (simp;omega),?_⟩;conv=>whnf)))
  ·have hie:i=gs.length:=by simp at hb;omega
   subst hie
   clear hb hvs
   rw [List.take_length] at hoe
   rw [hoe]
   repeat (refine gw rfl ?_;conv=>whnf)
   refine ⟨out.map D.bool,by rw [List.drop_zero];exact List.take_of_length_le (by rw [List.length_map];omega),by rw [List.length_map];omega,?_⟩
   conv=>whnf
theorem Va {l:List Bool} {k:Int} (h0:0≤k) (h:k.toNat<l.length):(l.map D.bool)[k.toNat]?=some (.bool (vX l k)):=by
 rw [List.getElem?_map,List.getElem?_eq_getElem h]
 unfold vX
 simp [h]
set_option maxRecDepth 10000 in
theorem Tryz.L6 (gs:List Gt) (roles bases:List Tm) (ins:List In) (ini next legal:List Int) (gl sl:List Ot) (term:Int) (hid:Bool) (st:List Int) (v:List Bool) (h0:0≤term) (h1:term.toNat<v.length)
  (hV:Pure Tryz.prog 22 [(fQ gs roles bases ins ini next legal (gl.map aK) (sl.map aK) term hid),.list (st.map enI),.list []] [.list (v.map D.bool),.int .i64 0]) :
  Pure Tryz.prog 27 [(fQ gs roles bases ins ini next legal (gl.map aK) (sl.map aK) term hid),.list (st.map enI)] [.bool (vX v term),.int .i64 0]:=by
 refine Pure.of_wp hT (nt:=_) (c:=_) Tryz.func27 rfl rfl rfl rfl (by kernel_rfl) ?_
 intro w0 ok0 β0
 repeat (refine gw rfl ?_;conv=>whnf)
 refine .inl ⟨_,hV,.inl rfl,?_⟩
 conv=>whnf
 repeat (refine gw rfl ?_;conv=>whnf)
 refine ⟨h0,_,Va h0 h1,rfl,?_⟩
 conv=>whnf
 repeat (refine gw rfl ?_;conv=>whnf)
end Go.Proofs.YtdonenoiehdahaaGreat
namespace Go.Own
def WS (acc:List Int) (y:Int):List Int:=if acc.contains y then acc else acc++[y]
def yF (m:Rows):Nat→List Int→List Int
 | 0,r=>r
 | k+1,r=>yF m k (r.foldl (fun acc x=>(rowOf m x).foldl WS acc) r)
theorem Dh {α:Type} {f:List Int→α→List Int} {p:Int→Prop}:∀ {l:List α} {acc:List Int},(∀ x∈l,∀ acc:List Int,(∀ z∈acc,p z)→∀ z∈f acc x,p z)→(∀ z∈acc,p z)→∀ z∈l.foldl f acc,p z
 | [],_,_,h=>h
 | x::l,acc,hf,h=>Dh (l:=l) (acc:=f acc x) (fun y hy=>hf y (by simp [hy])) (hf x (by simp) acc h)
theorem wQ {m:Rows} {a:Int}:∀ {k:Nat} {r:List Int},(∀ x∈r,Rch m a x)→∀ x∈yF m k r,Rch m a x
 | 0,_,h=>h
 | k+1,r,h=>wQ (k:=k) (Dh (fun x hx acc hacc=>Dh (fun y hy acc hacc z hz=>by
    unfold WS at hz
    split at hz
    ·exact hacc z hz
    ·rcases List.mem_append.1 hz with hz | hz
     ·exact hacc z hz
     ·rw [List.mem_singleton.1 hz];exact .step (h x hx) hy) hacc) h)
def I4 (m:Rows) (a:Int) (r:List Int):Bool:=(rowOf m a).all (r.contains ·)&&r.all fun x=>(rowOf m x).all (r.contains ·)
theorem reach_eq {m:Rows} {a b:Int} {k:Nat} (hc:I4 m a (yF m k (rowOf m a))=true):Nb m a b=(yF m k (rowOf m a)).contains b:=by
 unfold I4 at hc
 simp only [Bool.and_eq_true,List.all_eq_true,List.contains_iff_mem] at hc
 rw [Bool.eq_iff_iff,oI,List.contains_iff_mem]
 constructor
 ·intro h
  induction h with
  | one h=>exact hc.1 _ h
  | step _ h2 ih=>exact hc.2 _ ih _ h2
 ·exact wQ (fun x hx => .one hx) b
def Ym (n k:Nat) (m:Rows):List (List Bool):=(List.range n).map fun a=>(List.range n).map fun b=>(yF m k (rowOf m ((a:Nat):Int))).contains ((b:Nat):Int)
theorem Wi {n k:Nat} {m:Rows} (h:(List.range n).all (fun a=>I4 m ((a:Nat):Int) (yF m k (rowOf m ((a:Nat):Int))))=true):cO n m=Ym n k m:=by
 unfold cO Ym
 refine List.map_congr_left fun a ha=>?_
 unfold sF
 refine List.map_congr_left fun b _=>?_
 exact reach_eq ((List.all_eq_true.1 h) a ha)
end Go.Own
namespace Go.Proofs.YtdonenoiehdahaaGreat
open Go Go.Abs Go.Own
def recC (rules:List Gr) (g:List Nat):Bool:=g.any fun a=>(List.range rules.length).any fun i=>fU rules a i&&(rules[i]?).any fun r=>(r.2.1++r.2.2).any fun b=>(g.map fun k=>((k:Nat):Int)).contains b
theorem OT (rules:List Gr) (g:List Nat):yE rules g=recC rules g:=by
 have h:Rw rules g↔recC rules g=true:=by
  unfold Rw recC
  simp only [List.any_eq_true,Bool.and_eq_true,List.mem_range,Option.any_eq_true,List.contains_iff_mem]
 cases hc:recC rules g with
 | true=>exact MX (h.2 hc)
 | false=>exact MZ fun k=>by rw [h.1 k] at hc;cases hc
def Ue (rules:List Gr) (g:List Nat) (c:Cs):Cs:=match recC rules g with
 | true=>dR rules g g.length (c.1,qo g c.2)
 | false=>dR rules g 1 c
def WM (atoms:List Tm) (rules:List Gr) (c:Cs) (g:List Nat):Cs:=match jw (atoms.getD (g.getD 0 0) (.mk [] [])) with
 | true=>c
 | false=>Ue rules g c
def csC (atoms:List Tm) (rules:List Gr) (names:List Tm) (G:List (List Nat)):Cs:=G.foldl (WM atoms rules) (iG atoms (iD names) (aZ atoms) (kW atoms names) cs0)
theorem XP (atoms:List Tm) (rules:List Gr) (names:List Tm) (G:List (List Nat)):csN atoms rules names G=csC atoms rules names G:=by
 unfold csN csC
 congr 1
 funext c g
 unfold fZ WM jv Ue
 rw [OT]
 cases jw (atoms.getD (g.getD 0 0) (.mk [] []))<;>cases recC rules g<;>rfl
def SQ (rules:List Gr) (g:List Nat):Nat:=match recC rules g with
 | true=>g.length*(g.length+eF rules g)
 | false=>g.length+eF rules g
theorem SN (rules:List Gr) (g:List Nat):bP rules g=SQ rules g:=by
 unfold bP SQ
 rw [OT]
 cases recC rules g<;>rfl
def xB:List (List Nat):=[[4],[0,1],[2],[5],[3],[6]]
theorem IB:aV (cO aI.length (aA aI.length dM)) aI.length=xB:=by
 rw [Wi (k:=7) (by rfl)]
 rfl
theorem WO:iI aI.length dM xB=34:=by
 unfold iI
 rw [show bP dM=SQ dM from funext (SN dM)]
 rfl
theorem yg:aP aI dM=true:=by rfl
theorem MQ:bG dn=true:=by rfl
theorem given0:dM.any (cZ aI)=false:=by rfl
theorem Xq:(dP (nmS aI) (dX aI dM [])).isSome=true:=by rfl
def cs1:Cs:=csC aI dM dn xB
theorem UC:csN aI dM dn xB=cs1:=XP _ _ _ _
theorem X5:vX (valsF [] [] cs1.1.1) (ofV aI cs1.2 iy [])=true:=by rfl
theorem X4:vX (valsF [0] [] cs1.1.1) (ofV aI cs1.2 iy [])=false:=by rfl
theorem ok0:∀ x∈aI,okT x:=by
 intro x hx
 simp only [aI,List.mem_cons,List.not_mem_nil,or_false] at hx
 rcases hx with rfl | rfl | rfl | rfl | rfl | rfl | rfl<;>simp [okT,Nl,tS,tX,tA]
theorem sh0:∀ x∈aI,shT x:=by
 intro x hx
 simp only [aI,List.mem_cons,List.not_mem_nil,or_false] at hx
 rcases hx with rfl | rfl | rfl | rfl | rfl | rfl | rfl<;>simp [shT,Ql,tS,tX,tA]
theorem Yc:∀ x∈dn,okT x:=by
 intro x hx
 rw [List.mem_singleton.1 hx];simp [okT,Nl,tX]
def fB (x:Ot):Ot:=(x.1,x.2.1,x.2.2.1,0)
theorem BJ {m:Int}:∀ {l:List Int},l.Pairwise (·<·)→l.filter (fun x=>decide (x<m+1))=l.filter (fun x=>decide (x<m))++l.filter (fun x=>x==m)
 | [],_=>rfl
 | x::l,h=>by
   have h:=List.pairwise_cons.1 h
   by_cases e1:x<m
   ·rw [List.filter_cons_of_pos (by simp;omega),List.filter_cons_of_pos (by simp;omega),List.filter_cons_of_neg (by simp;omega),BJ h.2];rfl
   ·have hf:l.filter (fun x=>decide (x<m))=[]:=List.filter_eq_nil_iff.2 fun y hy=>by have:=h.1 y hy;simp;omega
    have hg:l.filter (fun x=>x==m)=[]:=List.filter_eq_nil_iff.2 fun y hy=>by have:=h.1 y hy;simp;omega
    have ih:=BJ (m:=m) h.2
    rw [hf,hg,List.append_nil] at ih
    by_cases e2:x=m
    ·subst e2
     rw [List.filter_cons_of_pos (by simp;omega),List.filter_cons_of_neg (by simp),List.filter_cons_of_pos (by simp),ih,hf,hg];rfl
    ·rw [List.filter_cons_of_neg (by simp;omega),List.filter_cons_of_neg (by simp;omega),List.filter_cons_of_neg (by simp;omega),ih,hf,hg];rfl
theorem CW {k:Nat} {l:List Int} (h:l.Pairwise (·<·)) (h0:∀ x∈l,0≤x):∀ m:Nat,(List.range m).flatMap (eG k l)=(l.filter fun x=>decide (x<((m:Nat):Int))).map fun v=>((k,v,.mk [] [],0):Ot)
 | 0=>by
   rw [List.filter_eq_nil_iff.2 fun y hy=>by have:=h0 y hy;simp;omega];rfl
 | m+1=>by
   rw [List.range_succ,List.flatMap_append,CW h h0 m,show (((m+1:Nat)):Int)=((m:Nat):Int)+1 from rfl,BJ h,List.map_append]
   congr 1
   rw [List.flatMap_cons,List.flatMap_nil,List.append_nil]
   unfold eG
   refine List.map_congr_left fun x hx=>?_
   rw [eq_of_beq (List.mem_filter.1 hx).2]
theorem vV {t:Tm} {v:Int} (h:iJ t=some v):bf t.name=true∧t.args.length=0∧dF t.name≤100∧v=dF t.name:=by
 unfold iJ at h
 split at h
 ·rename_i hc
  simp only [Bool.and_eq_true,decide_eq_true_eq] at hc
  cases h
  exact ⟨hc.1.1,hc.1.2,hc.2,rfl⟩
 ·cases h
theorem NU (atoms:List Tm) (val:Mi) (k:Nat) (r t:Tm):(gq atoms val k r t).map fB=(iJ t).toList.map fun v=>((k,v,.mk [] [],0):Ot):=by
 unfold gq iJ
 cases bf t.name&&decide (t.args.length=0)&&decide (dF t.name≤100)<;>rfl
theorem Gp (atoms:List Tm) (val:Mi) (k:Nat) (r:Tm):∀ l:List Tm,(l.flatMap (gq atoms val k r)).map fB=(l.filterMap iJ).map fun v=>((k,v,.mk [] [],0):Ot)
 | []=>rfl
 | t::l=>by
   rw [List.flatMap_cons,List.map_append,Gp atoms val k r l,NU]
   cases h:iJ t with
   | none=>rw [List.filterMap_cons_none h];rfl
   | some v=>rw [List.filterMap_cons_some h];rfl
theorem Td {atoms:List Tm} (h:atoms.Pairwise fun a b=>aO a b<0) (r:Tm):(OZ r atoms).Pairwise (·<·):=by
 unfold OZ
 have h1:=jG (name:=eU) (r:=r) h
 generalize aT eU (some r) atoms=l at h1
 refine List.Pairwise.filterMap _ (fun a b hab x hx y hy=>?_) h1
 obtain ⟨p1,p2,_,rfl⟩:=vV hx
 obtain ⟨q1,q2,_,rfl⟩:=vV hy
 exact JW hab p1 p2 q1 q2
theorem JU {r:Tm} {atoms:List Tm} {x:Int} (h:x∈OZ r atoms):0≤x∧x≤100:=by
 obtain ⟨t,_,ht⟩:=List.mem_filterMap.1 h
 obtain ⟨_,_,h3,rfl⟩:=vV ht
 exact ⟨zI _,h3⟩
theorem KN {atoms:List Tm} (h:atoms.Pairwise fun a b=>aO a b<0) (val:Mi) (p:Tm×Nat):nN atoms p=(mY atoms val p).map fB:=by
 unfold nN mY
 rw [CW (Td h p.1) (fun x hx=>(JU hx).1),List.filter_eq_self.2 fun x hx=>by have:=JU hx;simp;omega,Gp]
 rfl
theorem MC (atoms:List Tm) (val:Mi) (p:Tm×Nat):uG atoms p=(wJ atoms val p).map fB:=by
 unfold uG wJ
 rw [List.map_map];rfl
theorem NS {atoms:List Tm} (h:atoms.Pairwise fun a b=>aO a b<0) (val:Mi) (names:List Tm):names.zipIdx.flatMap (nN atoms)=(kD atoms val names).map fB:=by
 unfold kD
 rw [List.map_flatMap]
 congr 1
 funext p
 exact KN h val p
theorem Qm (atoms:List Tm) (val:Mi) (names:List Tm):names.zipIdx.flatMap (uG atoms)=(qp atoms val names).map fB:=by
 unfold qp
 rw [List.map_flatMap]
 congr 1
 funext p
 exact MC atoms val p
theorem Dl {z:Int}:∀ {l:List Int},l.Pairwise (·<·)→l.filter (fun x=>x==z)=if z∈l then [z] else []
 | [],_=>rfl
 | x::l,h=>by
   have h:=List.pairwise_cons.1 h
   by_cases e:x=z
   ·subst e
    rw [List.filter_cons_of_pos (by simp),List.filter_eq_nil_iff.2 fun y hy=>by have:=h.1 y hy;simp;omega,if_pos (by simp)]
   ·rw [List.filter_cons_of_neg (by simpa using e),Dl h.2]
    by_cases hm:z∈l
    ·rw [if_pos hm,if_pos (by simp [hm])]
    ·rw [if_neg hm,if_neg (by simp [hm,Ne.symm e])]
theorem Kz {atoms:List Tm} {hold:List Int} (ha:hold.Pairwise (·<·)) (h0:∀ x∈hold,0≤x) (hg:∀ t∈atoms,Grd t):∀ (l:List Tm),(∀ t∈l,Grd t∧nameB t.name=true)→∀ (q:List Int×Nat),
  (l.foldl (jh atoms hold) q).1=q.1++(((aT bW none l).zipIdx q.2).filter fun p=>mW atoms hold p.1).map fun p=>((p.2:Nat):Int)
 | [],_,q=>by simp [aT]
 | t::l,hl,q=>by
   rw [List.foldl_cons,Kz ha h0 hg l (fun x hx=>hl x (by simp [hx]))]
   unfold jh aT
   cases hs:fP bW none t with
   | none=>rw [List.filterMap_cons_none hs]
   | some f=>
     rw [List.filterMap_cons_some hs,List.zipIdx_cons]
     dsimp only
     obtain ⟨_,hargs⟩:=Bf hs
     have hgf:Grd f:=(hl t (by simp)).1.arg (by rw [hargs];simp)
     have hgi:Grd (.mk kF [f]):=by
      obtain ⟨k,hk⟩:=hgf
      refine ⟨k+1,?_⟩
      rw [sQ,if_pos (by simp [Tm.args]),if_neg (by simp [Tm.args])]
      show ([f].all (fO false k)&&nameB kF)=true
      rw [List.all_cons,hk];rfl
     rw [OW hgi hg]
     have hib:∀ b,mW atoms hold f=b→decide (iP (.mk kF [f]) 0 atoms∈hold)=b:=fun b e=>by
      rw [← e]
      unfold mW
      by_cases hm:iP (.mk kF [f]) 0 atoms∈hold
      ·have:=h0 _ hm
       rw [decide_eq_true hm,decide_eq_true (show iP (.mk kF [f]) 0 atoms≥0 by omega)];rfl
      ·rw [decide_eq_false hm];rfl
     rw [Dl ha]
     cases hb:mW atoms hold f with
     | true=>
       have:=of_decide_eq_true (hib _ hb)
       rw [if_pos this,List.filter_cons_of_pos (by exact hb),List.append_assoc]
       rfl
     | false=>
       have:=of_decide_eq_false (hib _ hb)
       rw [if_neg this,List.filter_cons_of_neg (by simp [hb]),List.map_nil,List.append_nil]
theorem TP {atoms:List Tm} {rules:List Gr} {hold:List Int} (hv:aP atoms rules=true) (ha:hold.Pairwise (·<·)) (h0:∀ x∈hold,0≤x):TR atoms hold=uN atoms hold (aZ atoms):=by
 have hg:∀ t∈atoms,Grd t∧nameB t.name=true:=fun t ht=>⟨⟨4,(Ec hv t ht).1⟩,(Ec hv t ht).2⟩
 unfold TR uN
 rw [Kz ha h0 (fun t ht=>(hg t ht).1) atoms hg]
 rfl
end Go.Proofs.YtdonenoiehdahaaGreat
namespace Go.Proofs.YtdonenoiehdahaaGreat
open Go Go.Abs Go.Own
attribute [local irreducible] WP
theorem Tryz.bare (l:List Ot) (hl:l.length≤100000):Pure Tryz.prog 56 [.list (l.map aK)] [.list ((l.map fB).map aK)]:=by
 refine Pure.of_wp hT (nt:=_) (c:=_) Tryz.func56 rfl rfl rfl rfl (by kernel_rfl) ?_
 intro w0 ok0 β0
 repeat (refine gw rfl ?_;conv=>whnf)
 refine WP.loop (α:=Nat) (fun i=>⟨[(0,.d (.list (l.map aK))),(3,.sl 60 5 0 i),(4,.d (.int .i64 i))],[((60,0),some (.arr 5 (((l.take i).map fB).map aK)))],[60]⟩) (fun i=>i≤l.length) (fun i=>l.length-i) 0 [(60,none)] [] ?_ ?_ ?_
 ·((conv=>whnf);repeat (first | exact ⟨⟩ | (refine ⟨by first | rfl | (simp;done) | (simp;omega),?_⟩;conv=>whnf)))
 ·exact Nat.zero_le _
 ·intro i hi
  have hus:=fun (h:i<l.length)=>show (l.take (i+1)).map fB=(l.take i).map fB++[fB l[i]] from by rw [List.take_succ_eq_append_getElem h,List.map_append];rfl
  have hRl:((l.take i).map fB).length=i:=by rw [List.length_map,List.length_take];omega
  generalize hRe:(l.take i).map fB=R at hus hRl ⊢
  repeat (refine gw rfl ?_;conv=>whnf)
  rw [List.length_map]
  (split<;>rename_i hb<;>(try rw [hb])<;>(conv=>whnf))
  ·have hlt:i<l.length:=by simpa using hb
   clear hb
   have hgt:=FZ hlt
   specialize hus hlt
   generalize l[i]=x at hgt hus
   repeat (refine gw rfl ?_;conv=>whnf)
   iterate 3
    refine ⟨by omega,_,hgt,rfl,?_⟩
    conv=>whnf
   iterate 2
    refine ⟨rfl,?_⟩
    conv=>whnf
   (refine ⟨rfl,?_⟩;(conv=>whnf);refine ⟨_,(congrArg (List.take _) List.drop_zero).trans (List.take_of_length_le (by first | (simp;done) | (simp;omega))),by first | (simp;done) | (simp;omega),?_⟩;(conv=>whnf);refine ⟨_,rfl,Nat.le_refl _,?_⟩;(conv=>whnf);refine ⟨by show (_+1)*64≤_;first | (simp;done) | (simp;omega),?_⟩;(conv=>whnf))
   repeat (refine gw rfl ?_;conv=>whnf)
   refine ⟨by omega,?_⟩
   conv=>whnf
   refine ⟨i+1,[(60,some 29)],[],?_,by omega,by omega⟩
   rw [hus,List.map_append]
   ((conv=>whnf);repeat (first | exact ⟨⟩ | (refine ⟨by first | rfl | (simp;done) | (simp;omega),?_⟩;conv=>whnf)))
  ·have hie:i=l.length:=by simp at hb;omega
   subst hie
   clear hb hus
   rw [List.take_length] at hRe
   rw [hRe]
   repeat (refine gw rfl ?_;conv=>whnf)
   refine ⟨R.map aK,by rw [List.drop_zero];exact List.take_of_length_le (by rw [List.length_map];omega),by rw [List.length_map];omega,?_⟩
   conv=>whnf
set_option maxRecDepth 10000 in
theorem Tryz.Tz (gs gs':List Gt) (roles bases:List Tm) (ins:List In) (ini next legal next' legal':List Int) (gl sl gl' sl':List Ot) (term term':Int) (hid:Bool) (h1:roles.length≤1000000) (h2:bases.length≤1000000) (h3:ins.length≤1000000) (h4:ini.length≤1000000) (h5:gl.length≤100000) (h6:sl.length≤100000)
  (h7:gl'.length≤100000) (h8:sl'.length≤100000) (o1:∀ x∈roles,okT x) (o2:∀ x∈bases,okT x) (o3:∀ x∈ins,okT x.2) (o4:∀ x∈gl,okT x.2.2.1) (o5:∀ x∈sl,okT x.2.2.1) (e1:gl'.map fB=gl.map fB) (e2:sl'.map fB=sl.map fB) (x1:next.length=bases.length) (x2:legal.length=ins.length) :
  Pure Tryz.prog 17 [fQ gs roles bases ins ini next legal (gl.map aK) (sl.map aK) term hid,fQ gs' roles bases ins ini next' legal' (gl'.map aK) (sl'.map aK) term' hid] [.bool true]:=by
 have hb1:=Tryz.bare gl h5
 have hb2:=Tryz.bare sl h6
 have hb3:=Tryz.bare gl' h7
 have hb4:=Tryz.bare sl' h8
 rw [e1] at hb3
 rw [e2] at hb4
 have hS:=Tryz.O4 roles bases ins ini (gl.map fB) (sl.map fB) hid h1 h2 h3 h4 (by rw [List.length_map];omega) (by rw [List.length_map];omega) o1 o2 o3 (fun x hx=>by obtain ⟨y,hy,rfl⟩:=List.mem_map.1 hx;exact o4 y hy) (fun x hx=>by obtain ⟨y,hy,rfl⟩:=List.mem_map.1 hx;exact o5 y hy)
 refine Pure.of_wp hT (nt:=_) (c:=_) Tryz.func17 rfl rfl rfl rfl (by kernel_rfl) ?_
 intro w0 ok0 β0
 repeat (refine gw rfl ?_;conv=>whnf)
 refine .inl ⟨_,hb1,.inl rfl,?_⟩
 conv=>whnf
 refine .inl ⟨_,hb2,.inl rfl,?_⟩
 conv=>whnf
 iterate 7
  refine ⟨rfl,?_⟩
  conv=>whnf
 repeat (refine gw rfl ?_;conv=>whnf)
 refine .inl ⟨_,hb3,.inl rfl,?_⟩
 conv=>whnf
 refine .inl ⟨_,hb4,.inl rfl,?_⟩
 conv=>whnf
 iterate 7
  refine ⟨rfl,?_⟩
  conv=>whnf
 repeat (refine gw rfl ?_;conv=>whnf)
 refine .inl ⟨_,hS,.inl rfl,?_⟩
 conv=>whnf
 rw [List.length_map,List.length_map,x1,beq_self_eq_true]
 conv=>whnf
 repeat (refine gw rfl ?_;conv=>whnf)
 rw [List.length_map,List.length_map,x2,beq_self_eq_true]
end Go.Proofs.YtdonenoiehdahaaGreat
