/- Walks: the reference's check of a network, lists and outputs. -/
import Derived.Test.YtdonenoiehdahaaGreatLtAAnd
import Derived.Test.YtdonenoiehdahaaGreatGrYAnd
import Derived.Test.YtdonenoiehdahaaGreatLtJAnd
set_option linter.all false
namespace Go.Proofs.YtdonenoiehdahaaGreat
open Go Go.Abs Go.Own
attribute [local irreducible] WP
theorem Za {l:List Tm} {i:Nat} (h:i+1<l.length):(l.map enT)[(((i+1:Nat):Int)-1).toNat]?=some (tD l[i].name l[i].args):=by
 rw [show (((i+1:Nat):Int)-1)=(i:Nat) by omega];exact dB (by omega)
set_option maxRecDepth 10000 in
theorem Tryz.Xr (gs:List Gt) (roles bases:List Tm) (ins:List In) (ini next legal:List Int) (goals sees:List D) (term:Int) (hid:Bool) (hb1:bases.length≤1000) (hi1:ins.length≤100000) (hn1:ini.length≤100000)
  (ob:∀ x∈bases,okT x∧eG false 4 x=true) (ab:bases.Pairwise fun a b=>aS a b<0) (oi:∀ x∈ins,okT x.2∧eG false 4 x.2=true∧x.1<roles.length) (ai:ins.Pairwise fun a b=>a.1<b.1∨(a.1=b.1∧aS a.2 b.2<0))
  (oj:∀ x∈ini,0≤x∧x<(bases.length:Nat)) (aj:ini.Pairwise (·<·)) (l1:next.length=bases.length) (l2:legal.length=ins.length) :
  Pure Tryz.prog 54 [(ig gs roles bases ins ini next legal goals sees term hid)] [.bool true]:=by
 refine Pure.of_wp hT (nt:=_) (c:=_) Tryz.func54 rfl rfl rfl rfl (by kernel_rfl) ?_;intro w0 ok0 β0;repeat (refine gw rfl ?_;conv=>whnf)
 refine WP.loop (α:=Nat) (fun i=>⟨[(1,.d (.ref (ig gs roles bases ins ini next legal goals sees term hid).cells 0)),(3,.d (.int .i64 i))],[],[]⟩) (fun i=>i≤bases.length) (fun i=>bases.length-i) 0 [] [] ?_ ?_ ?_
 ·((conv=>whnf);repeat (first | exact ⟨⟩ | (refine ⟨by first | rfl | (simp;done) | (simp;omega),?_⟩;conv=>whnf)))
 ·exact Nat.zero_le _
 ·intro i hi;repeat (refine gw rfl ?_;conv=>whnf)
  rw [List.length_map];(split<;>rename_i hb<;>(try rw [hb])<;>(conv=>whnf))
  ·have hlt:i<bases.length:=(by simpa using hb);clear hb;have hgt:=dB hlt;obtain ⟨o1,o2⟩:=ob _ (List.getElem_mem hlt);(repeat (refine gw rfl ?_;conv=>whnf));refine ⟨by omega,_,hgt,rfl,?_⟩;(conv=>whnf);refine .inl ⟨_,Tryz.yE _,.inl rfl,?_⟩;rw [o2];(conv=>whnf);cases i with
   | zero=>
     (conv=>whnf);(repeat (refine gw rfl ?_;conv=>whnf));refine ⟨by omega,?_⟩;(conv=>whnf);refine ⟨1,[],[],?_,by omega,by omega⟩;((conv=>whnf);repeat (first | exact ⟨⟩ | (refine ⟨by first | rfl | (simp;done) | (simp;omega),?_⟩;conv=>whnf)))
   | succ i=>
     have h5:=List.pairwise_iff_getElem.1 ab i (i+1) (by omega) hlt (by omega);rw [show decide ((((i+1:Nat)):Int)>0)=true from decide_eq_true (by omega)];(conv=>whnf);refine ⟨by omega,?_⟩;(conv=>whnf);refine ⟨by omega,_,Za hlt,rfl,?_⟩;(conv=>whnf);refine ⟨by omega,_,hgt,rfl,?_⟩;(conv=>whnf);refine .inl ⟨_,Tryz.uT bases[i] bases[i+1] (ob _ (List.getElem_mem _)).1 o1,.inl rfl,?_⟩;(conv=>whnf);rw [show decide (aS bases[i] bases[i+1]≥0)=false from decide_eq_false (by omega)];(conv=>whnf);(repeat (refine gw rfl ?_;conv=>whnf));refine ⟨by omega,?_⟩;(conv=>whnf);refine ⟨i+2,[],[],?_,by omega,by omega⟩;((conv=>whnf);repeat (first | exact ⟨⟩ | (refine ⟨by first | rfl | (simp;done) | (simp;omega),?_⟩;conv=>whnf)))
  ·clear hb;(repeat (refine gw rfl ?_;conv=>whnf));refine WP.loop (α:=Nat) (fun i=>⟨[(1,.d (.ref (ig gs roles bases ins ini next legal goals sees term hid).cells 0)),(4,.d (.int .i64 i))],[],[]⟩) (fun i=>i≤ins.length) (fun i=>ins.length-i) 0 [] [] ?_ ?_ ?_
   ·((conv=>whnf);repeat (first | exact ⟨⟩ | (refine ⟨by first | rfl | (simp;done) | (simp;omega),?_⟩;conv=>whnf)))
   ·exact Nat.zero_le _
   ·intro i hi;(repeat (refine gw rfl ?_;conv=>whnf));rw [List.length_map];(split<;>rename_i hb<;>(try rw [hb])<;>(conv=>whnf))
    ·have hlt:i<ins.length:=(by simpa using hb);clear hb;have hgt:=Vd hlt;obtain ⟨o1,o2,o3⟩:=oi _ (List.getElem_mem hlt);(repeat (refine gw rfl ?_;conv=>whnf));refine ⟨by omega,_,hgt,rfl,?_⟩;(conv=>whnf);(repeat (refine gw rfl ?_;conv=>whnf));rw [List.length_map,show decide (((ins[i].1:Nat):Int)<0)=false from decide_eq_false (by omega),show decide (((ins[i].1:Nat):Int)≥((roles.length:Nat):Int))=false from decide_eq_false (by omega)];(conv=>whnf);refine .inl ⟨_,Tryz.yE ins[i].2,.inl rfl,?_⟩;rw [o2];(conv=>whnf);(repeat (refine gw rfl ?_;conv=>whnf));cases i with
     | zero=>
       (conv=>whnf);(repeat (refine gw rfl ?_;conv=>whnf));refine ⟨by omega,?_⟩;(conv=>whnf);refine ⟨1,[],[],?_,by omega,by omega⟩;((conv=>whnf);repeat (first | exact ⟨⟩ | (refine ⟨by first | rfl | (simp;done) | (simp;omega),?_⟩;conv=>whnf)))
     | succ i=>
       have h5:=List.pairwise_iff_getElem.1 ai i (i+1) (by omega) hlt (by omega);have hgp:=Vd (show i<ins.length by omega);have o4:=(oi _ (List.getElem_mem (show i<ins.length by omega))).1;generalize ins[i]=y at h5 hgp o4;generalize ins[i+1]=x at *;rw [show decide ((((i+1:Nat)):Int)>0)=true from decide_eq_true (by omega)];(conv=>whnf);(repeat (refine gw rfl ?_;conv=>whnf));refine ⟨by omega,?_⟩;(conv=>whnf);refine ⟨by omega,_,by rw [show (((i+1:Nat):Int)-1)=(i:Nat) by omega];exact hgp,rfl,?_⟩;(conv=>whnf);(repeat (refine gw rfl ?_;conv=>whnf));rcases h5 with h5 | ⟨h5,h6⟩
       ·rw [show decide (((y.1:Nat):Int)>((x.1:Nat):Int))=false from decide_eq_false (by omega)];(conv=>whnf);rw [show (((y.1:Nat):Int)==((x.1:Nat):Int))=false from beq_eq_false_iff_ne.2 (by omega)];(conv=>whnf);(repeat (refine gw rfl ?_;conv=>whnf));refine ⟨by omega,?_⟩;(conv=>whnf);refine ⟨i+2,[],[],?_,by omega,by omega⟩;((conv=>whnf);repeat (first | exact ⟨⟩ | (refine ⟨by first | rfl | (simp;done) | (simp;omega),?_⟩;conv=>whnf)))
       ·rw [show decide (((y.1:Nat):Int)>((x.1:Nat):Int))=false from decide_eq_false (by omega)];(conv=>whnf);rw [show (((y.1:Nat):Int)==((x.1:Nat):Int))=true from beq_iff_eq.2 (by omega)];(conv=>whnf);refine .inl ⟨_,Tryz.uT y.2 x.2 o4 o1,.inl rfl,?_⟩;(conv=>whnf);rw [show decide (aS y.2 x.2≥0)=false from decide_eq_false (by omega)];(conv=>whnf);(repeat (refine gw rfl ?_;conv=>whnf));refine ⟨by omega,?_⟩;(conv=>whnf);refine ⟨i+2,[],[],?_,by omega,by omega⟩;((conv=>whnf);repeat (first | exact ⟨⟩ | (refine ⟨by first | rfl | (simp;done) | (simp;omega),?_⟩;conv=>whnf)))
    ·clear hb;(repeat (refine gw rfl ?_;conv=>whnf));refine WP.loop (α:=Nat) (fun i=>⟨[(1,.d (.ref (ig gs roles bases ins ini next legal goals sees term hid).cells 0)),(7,.d (.int .i64 i))],[],[]⟩) (fun i=>i≤ini.length) (fun i=>ini.length-i) 0 [] [] ?_ ?_ ?_
     ·((conv=>whnf);repeat (first | exact ⟨⟩ | (refine ⟨by first | rfl | (simp;done) | (simp;omega),?_⟩;conv=>whnf)))
     ·exact Nat.zero_le _
     ·intro i hi;(repeat (refine gw rfl ?_;conv=>whnf));rw [List.length_map];(split<;>rename_i hb<;>(try rw [hb])<;>(conv=>whnf))
      ·have hlt:i<ini.length:=(by simpa using hb);clear hb;have hgt:=qN hlt;have hj:=oj _ (List.getElem_mem hlt);(repeat (refine gw rfl ?_;conv=>whnf));refine ⟨by omega,_,hgt,rfl,?_⟩;(conv=>whnf);rw [show decide (ini[i]<0)=false from decide_eq_false (by omega)];(conv=>whnf);refine ⟨by omega,_,hgt,rfl,?_⟩;(conv=>whnf);rw [show decide (ini[i]≥_)=false from decide_eq_false (by rw [List.length_map];omega)];(conv=>whnf);cases i with
       | zero=>
         (conv=>whnf);(repeat (refine gw rfl ?_;conv=>whnf));refine ⟨by omega,?_⟩;(conv=>whnf);refine ⟨1,[],[],?_,by omega,by omega⟩;((conv=>whnf);repeat (first | exact ⟨⟩ | (refine ⟨by first | rfl | (simp;done) | (simp;omega),?_⟩;conv=>whnf)))
       | succ i=>
         have h5:=List.pairwise_iff_getElem.1 aj i (i+1) (by omega) hlt (by omega);rw [show decide ((((i+1:Nat)):Int)>0)=true from decide_eq_true (by omega)];(conv=>whnf);refine ⟨by omega,_,hgt,rfl,?_⟩;(conv=>whnf);refine ⟨by omega,?_⟩;(conv=>whnf);refine ⟨by omega,_,by rw [show (((i+1:Nat):Int)-1)=(i:Nat) by omega];exact qN (show i<ini.length by omega),rfl,?_⟩;(conv=>whnf);rw [show decide (ini[i+1]≤ini[i])=false from decide_eq_false (by omega)];(conv=>whnf);(repeat (refine gw rfl ?_;conv=>whnf));refine ⟨by omega,?_⟩;(conv=>whnf);refine ⟨i+2,[],[],?_,by omega,by omega⟩;((conv=>whnf);repeat (first | exact ⟨⟩ | (refine ⟨by first | rfl | (simp;done) | (simp;omega),?_⟩;conv=>whnf)))
      ·clear hb;(repeat (refine gw rfl ?_;conv=>whnf));rw [List.length_map,List.length_map,l1,beq_self_eq_true];(conv=>whnf);(repeat (refine gw rfl ?_;conv=>whnf));rw [List.length_map,List.length_map,l2,beq_self_eq_true]
def gOf (l:List Ot):List Int:=l.map fun x=>x.2.2.2
def J7 (n:Nat) (x:Ot):Prop:=x.1<n∧0≤x.2.1∧x.2.1≤100∧x.2.2.1.name=[]∧x.2.2.1.args.length=0
def P5 (n:Nat) (x:Ot):Prop:=x.1<n∧x.2.1=0∧okT x.2.2.1∧eG false 4 x.2.2.1=true
theorem MN {l:List Ot} {i:Nat} (h:i<l.length):gOf (l.take (i+1))=gOf (l.take i)++[l[i].2.2.2]:=by
 unfold gOf;rw [List.take_succ_eq_append_getElem h,List.map_append];rfl
theorem QJ (l:List Ot):(gOf l).length=l.length:=List.length_map ..
set_option maxRecDepth 10000 in
theorem Tryz.Sj (gs:List Gt) (roles bases:List Tm) (ins:List In) (ini next legal:List Int) (gl sl:List Ot) (term:Int) (hid:Bool) (hb1:next.length≤1000) (hi1:legal.length≤100000) (hg1:gl.length≤100000) (hs1:sl.length≤100000)
  (og:∀ x∈gl,J7 roles.length x) (ag:gl.Pairwise fun a b=>a.1<b.1∨(a.1=b.1∧a.2.1<b.2.1)) (os:∀ x∈sl,P5 roles.length x) (as':sl.Pairwise fun a b=>a.1<b.1∨(a.1=b.1∧aS a.2.2.1 b.2.2.1<0))
  (ra:∀ x∈term::next++legal++gOf gl++gOf sl,0≤x∧x<(gs.length:Nat)) :
  Pure Tryz.prog 55 [(ig gs roles bases ins ini next legal (gl.map aV) (sl.map aV) term hid)] [.bool true]:=by
 refine Pure.of_wp hT (nt:=_) (c:=_) Tryz.func55 rfl rfl rfl rfl (by kernel_rfl) ?_;intro w0 ok0 β0;repeat (refine gw rfl ?_;conv=>whnf)
 refine ⟨rfl,?_⟩;conv=>whnf
 refine ⟨_,by rw [List.drop_zero,List.take_of_length_le (by simp)],by simp,?_⟩;conv=>whnf
 refine ⟨fun y hy=>by obtain ⟨_,_,rfl⟩:=List.mem_map.1 hy;rfl,?_⟩;conv=>whnf
 refine ⟨by show _*8≤_;rw [List.length_map,List.length_singleton];omega,?_⟩;conv=>whnf
 refine ⟨_,by rw [List.drop_zero,← List.length_append,List.take_length],by rw [List.length_append];omega,?_⟩;conv=>whnf
 refine ⟨fun y hy=>by obtain ⟨_,_,rfl⟩:=List.mem_map.1 hy;rfl,?_⟩;conv=>whnf
 refine ⟨by show _*8≤_;simp only [List.length_append,List.length_map,List.length_singleton];omega,?_⟩;conv=>whnf
 repeat (refine gw rfl ?_;conv=>whnf)
 obtain ⟨A,hA⟩:∃ A,A=term::next++legal:=⟨_,rfl⟩
 have hAl:A.length≤102000:=by rw [hA];simp only [List.length_append,List.length_cons];omega
 rw [← hA] at ra;rw [show [D.int .i64 term]++List.map enI next++List.map enI legal=(A++gOf (gl.take 0)).map enI from by rw [hA];simp [gOf,List.length_append]<;>first | rfl | omega];rw [show ([D.int .i64 term]++List.map enI next).length+(List.map enI legal).length=(A++gOf (gl.take 0)).length from by rw [hA];simp [gOf,List.length_append]<;>first | rfl | omega];refine WP.loop (α:=Nat) (fun i=>⟨[(1,.d (.ref (ig gs roles bases ins ini next legal (gl.map aV) (sl.map aV) term hid).cells 0)),(3,.sl 60 1 0 (A++gOf (gl.take i)).length),(4,.d (.int .i64 i))],[((60,0),some (.arr 1 ((A++gOf (gl.take i)).map enI)))],[60]⟩) (fun i=>i≤gl.length) (fun i=>gl.length-i) 0 [(60,some 19)] [] ?_ ?_ ?_
 ·((conv=>whnf);repeat (first | exact ⟨⟩ | (refine ⟨by first | rfl | (simp;done) | (simp;omega),?_⟩;conv=>whnf)))
 ·exact Nat.zero_le _
 ·intro i hi;have hsu:=fun (h:i<gl.length)=>(congrArg (A++·) (MN h)).trans (List.append_assoc A (gOf (gl.take i)) [gl[i].2.2.2]).symm
  have hBl:(A++gOf (gl.take i)).length≤202000:=by
   rw [List.length_append,QJ,List.length_take];omega
  generalize hRe:A++gOf (gl.take i)=R at hsu hBl ⊢;repeat (refine gw rfl ?_;conv=>whnf)
  rw [List.length_map];(split<;>rename_i hb<;>(try rw [hb])<;>(conv=>whnf))
  ·have hlt:i<gl.length:=(by simpa using hb);clear hb;have hgt:=Hr hlt;obtain ⟨f1,f2,f3,f4,f5⟩:=og _ (List.getElem_mem hlt);specialize hsu hlt;have hpr:=fun j (h:j+1=i)=>List.pairwise_iff_getElem.1 ag j i (by omega) hlt (by omega)
   have hgp:=fun j (h:j+1=i)=>Hr (show j<gl.length by omega)
   generalize gl[i]=x at *;(repeat (refine gw rfl ?_;conv=>whnf));refine ⟨by omega,_,hgt,rfl,?_⟩;(conv=>whnf);repeat (refine gw rfl ?_;conv=>whnf)
   (refine ⟨rfl,?_⟩;(conv=>whnf);refine ⟨_,(congrArg (List.take _) List.drop_zero).trans (List.take_of_length_le (by first | (simp;done) | (simp;omega))),by first | (simp;done) | (simp;omega),?_⟩;(conv=>whnf);refine ⟨_,rfl,Nat.le_refl _,?_⟩;(conv=>whnf);refine ⟨by show (_+1)*8≤_;first | (simp;done) | (simp;omega),?_⟩;(conv=>whnf))
   (repeat (refine gw rfl ?_;conv=>whnf));rw [show decide (((x.1:Nat):Int)<0)=false from decide_eq_false (by omega)];(conv=>whnf);rw [show decide (((x.1:Nat):Int)≥(((roles.map enT).length:Nat):Int))=false from decide_eq_false (by rw [List.length_map];omega)];(conv=>whnf);rw [show decide (x.2.1<0)=false from decide_eq_false (by omega)];(conv=>whnf);rw [show decide (x.2.1>100)=false from decide_eq_false (by omega)];(conv=>whnf);rw [f4];(conv=>whnf);rw [List.length_map,f5];(conv=>whnf);(repeat (refine gw rfl ?_;conv=>whnf));cases i with
   | zero=>
     (conv=>whnf);(repeat (refine gw rfl ?_;conv=>whnf));refine ⟨by omega,?_⟩;(conv=>whnf);refine ⟨1,[(60,some 36)],[],?_,by omega,by omega⟩;rw [hsu,List.map_append,List.length_append];((conv=>whnf);repeat (first | exact ⟨⟩ | (refine ⟨by first | rfl | (simp;done) | (simp;omega),?_⟩;conv=>whnf)))
   | succ i=>
     have h5:=hpr i rfl;have hgq:=hgp i rfl;rw [show decide ((((i+1:Nat)):Int)>0)=true from decide_eq_true (by omega)];(conv=>whnf);(repeat (refine gw rfl ?_;conv=>whnf));refine ⟨by omega,?_⟩;(conv=>whnf);refine ⟨by omega,_,by rw [show (((i+1:Nat):Int)-1)=(i:Nat) by omega];exact hgq,rfl,?_⟩;(conv=>whnf);generalize gl[i]=y at h5;(repeat (refine gw rfl ?_;conv=>whnf));rcases h5 with h5 | ⟨h5,h6⟩
     ·rw [show decide (((y.1:Nat):Int)>((x.1:Nat):Int))=false from decide_eq_false (by omega)];(conv=>whnf);rw [show (((y.1:Nat):Int)==((x.1:Nat):Int))=false from beq_eq_false_iff_ne.2 (by omega)];(conv=>whnf);(repeat (refine gw rfl ?_;conv=>whnf));refine ⟨by omega,?_⟩;(conv=>whnf);refine ⟨i+2,[(60,some 36)],[],?_,by omega,by omega⟩;rw [hsu,List.map_append,List.length_append];((conv=>whnf);repeat (first | exact ⟨⟩ | (refine ⟨by first | rfl | (simp;done) | (simp;omega),?_⟩;conv=>whnf)))
     ·rw [show decide (((y.1:Nat):Int)>((x.1:Nat):Int))=false from decide_eq_false (by omega)];(conv=>whnf);rw [show (((y.1:Nat):Int)==((x.1:Nat):Int))=true from beq_iff_eq.2 (by omega)];(conv=>whnf);rw [show decide (y.2.1≥x.2.1)=false from decide_eq_false (by omega)];(conv=>whnf);(repeat (refine gw rfl ?_;conv=>whnf));refine ⟨by omega,?_⟩;(conv=>whnf);refine ⟨i+2,[(60,some 36)],[],?_,by omega,by omega⟩;rw [hsu,List.map_append,List.length_append];((conv=>whnf);repeat (first | exact ⟨⟩ | (refine ⟨by first | rfl | (simp;done) | (simp;omega),?_⟩;conv=>whnf)))
  ·have hie:i=gl.length:=(by simp at hb;omega);subst hie;clear hb;rw [List.take_length] at hRe;(repeat (refine gw rfl ?_;conv=>whnf));rw [show R.map enI=(R++gOf (sl.take 0)).map enI from by simp [gOf],show R.length=(R++gOf (sl.take 0)).length from by simp [gOf]];refine WP.loop (α:=Nat) (fun i=>⟨[(1,.d (.ref (ig gs roles bases ins ini next legal (gl.map aV) (sl.map aV) term hid).cells 0)),(3,.sl 60 1 0 (R++gOf (sl.take i)).length),(7,.d (.int .i64 i))],[((60,0),some (.arr 1 ((R++gOf (sl.take i)).map enI)))],[60]⟩) (fun i=>i≤sl.length) (fun i=>sl.length-i) 0 [(60,some 60)] [] ?_ ?_ ?_
   ·((conv=>whnf);repeat (first | exact ⟨⟩ | (refine ⟨by first | rfl | (simp;done) | (simp;omega),?_⟩;conv=>whnf)))
   ·exact Nat.zero_le _
   ·intro i hi;have hsu:=fun (h:i<sl.length)=>(congrArg (R++·) (MN h)).trans (List.append_assoc R (gOf (sl.take i)) [sl[i].2.2.2]).symm
    have hSl:(R++gOf (sl.take i)).length≤302000:=by
     rw [List.length_append,QJ,List.length_take];omega
    generalize hSe:R++gOf (sl.take i)=S at hsu hSl ⊢;(repeat (refine gw rfl ?_;conv=>whnf));rw [List.length_map];(split<;>rename_i hb<;>(try rw [hb])<;>(conv=>whnf))
    ·have hlt:i<sl.length:=(by simpa using hb);clear hb;have hgt:=Hr hlt;obtain ⟨f1,f2,f3,f4⟩:=os _ (List.getElem_mem hlt);specialize hsu hlt;have hpr:=fun j (h:j+1=i)=>List.pairwise_iff_getElem.1 as' j i (by omega) hlt (by omega)
     have hgp:=fun j (h:j+1=i)=>Hr (show j<sl.length by omega)
     have hop:=fun j (h:j+1=i)=>(os _ (List.getElem_mem (show j<sl.length by omega))).2.2.1
     generalize sl[i]=x at *;(repeat (refine gw rfl ?_;conv=>whnf));refine ⟨by omega,_,hgt,rfl,?_⟩;(conv=>whnf);repeat (refine gw rfl ?_;conv=>whnf)
     (refine ⟨rfl,?_⟩;(conv=>whnf);refine ⟨_,(congrArg (List.take _) List.drop_zero).trans (List.take_of_length_le (by first | (simp;done) | (simp;omega))),by first | (simp;done) | (simp;omega),?_⟩;(conv=>whnf);refine ⟨_,rfl,Nat.le_refl _,?_⟩;(conv=>whnf);refine ⟨by show (_+1)*8≤_;first | (simp;done) | (simp;omega),?_⟩;(conv=>whnf))
     (repeat (refine gw rfl ?_;conv=>whnf));rw [show decide (((x.1:Nat):Int)<0)=false from decide_eq_false (by omega)];(conv=>whnf);rw [show decide (((x.1:Nat):Int)≥(((roles.map enT).length:Nat):Int))=false from decide_eq_false (by rw [List.length_map];omega)];(conv=>whnf);rw [f2];(conv=>whnf);refine .inl ⟨_,Tryz.yE x.2.2.1,.inl rfl,?_⟩;rw [f4];(conv=>whnf);(repeat (refine gw rfl ?_;conv=>whnf));cases i with
     | zero=>
       (conv=>whnf);(repeat (refine gw rfl ?_;conv=>whnf));refine ⟨by omega,?_⟩;(conv=>whnf);refine ⟨1,[(60,some 114)],[],?_,by omega,by omega⟩;rw [hsu,List.map_append,List.length_append];((conv=>whnf);repeat (first | exact ⟨⟩ | (refine ⟨by first | rfl | (simp;done) | (simp;omega),?_⟩;conv=>whnf)))
     | succ i=>
       have h5:=hpr i rfl;have hgq:=hgp i rfl;have oy:=hop i rfl;rw [show decide ((((i+1:Nat)):Int)>0)=true from decide_eq_true (by omega)];(conv=>whnf);(repeat (refine gw rfl ?_;conv=>whnf));refine ⟨by omega,?_⟩;(conv=>whnf);refine ⟨by omega,_,by rw [show (((i+1:Nat):Int)-1)=(i:Nat) by omega];exact hgq,rfl,?_⟩;(conv=>whnf);generalize sl[i]=y at h5 oy;(repeat (refine gw rfl ?_;conv=>whnf));rcases h5 with h5 | ⟨h5,h6⟩
       ·rw [show decide (((y.1:Nat):Int)>((x.1:Nat):Int))=false from decide_eq_false (by omega)];(conv=>whnf);rw [show (((y.1:Nat):Int)==((x.1:Nat):Int))=false from beq_eq_false_iff_ne.2 (by omega)];(conv=>whnf);(repeat (refine gw rfl ?_;conv=>whnf));refine ⟨by omega,?_⟩;(conv=>whnf);refine ⟨i+2,[(60,some 114)],[],?_,by omega,by omega⟩;rw [hsu,List.map_append,List.length_append];((conv=>whnf);repeat (first | exact ⟨⟩ | (refine ⟨by first | rfl | (simp;done) | (simp;omega),?_⟩;conv=>whnf)))
       ·rw [show decide (((y.1:Nat):Int)>((x.1:Nat):Int))=false from decide_eq_false (by omega)];(conv=>whnf);rw [show (((y.1:Nat):Int)==((x.1:Nat):Int))=true from beq_iff_eq.2 (by omega)];(conv=>whnf);refine .inl ⟨_,Tryz.uT y.2.2.1 x.2.2.1 oy f3,.inl rfl,?_⟩;(conv=>whnf);rw [show decide (aS y.2.2.1 x.2.2.1≥0)=false from decide_eq_false (by omega)];(conv=>whnf);(repeat (refine gw rfl ?_;conv=>whnf));refine ⟨by omega,?_⟩;(conv=>whnf);refine ⟨i+2,[(60,some 114)],[],?_,by omega,by omega⟩;rw [hsu,List.map_append,List.length_append];((conv=>whnf);repeat (first | exact ⟨⟩ | (refine ⟨by first | rfl | (simp;done) | (simp;omega),?_⟩;conv=>whnf)))
    ·have hie:i=sl.length:=(by simp at hb;omega);subst hie;clear hb;rw [List.take_length] at hSe;rw [hRe,hSe] at ra;(repeat (refine gw rfl ?_;conv=>whnf));refine WP.loop (α:=Nat) (fun i=>⟨[(1,.d (.ref (ig gs roles bases ins ini next legal (gl.map aV) (sl.map aV) term hid).cells 0)),(3,.sl 60 1 0 S.length),(10,.d (.int .i64 i))],[((60,0),some (.arr 1 (S.map enI)))],[60]⟩) (fun i=>i≤S.length) (fun i=>S.length-i) 0 [(60,some 60)] [] ?_ ?_ ?_
     ·((conv=>whnf);repeat (first | exact ⟨⟩ | (refine ⟨by first | rfl | (simp;done) | (simp;omega),?_⟩;conv=>whnf)))
     ·exact Nat.zero_le _
     ·intro i hi;(repeat (refine gw rfl ?_;conv=>whnf));(split<;>rename_i hb<;>(try rw [hb])<;>(conv=>whnf))
      ·have hlt:i<S.length:=(by simpa using hb);clear hb;have hs:=ra _ (List.getElem_mem hlt);have hg0:(S.map enI)[0+((i:Nat):Int).toNat]?=some (.int .i64 S[i]):=(by rw [Nat.zero_add];exact qN hlt);(repeat (refine gw rfl ?_;conv=>whnf));refine ⟨⟨by omega,by omega⟩,?_⟩;(conv=>whnf);refine ⟨_,hg0,?_⟩;(conv=>whnf);rw [show decide (S[i]<0)=false from decide_eq_false (by omega)];(conv=>whnf);refine ⟨⟨by omega,by omega⟩,?_⟩;(conv=>whnf);refine ⟨_,hg0,?_⟩;(conv=>whnf);rw [show decide (S[i]≥_)=false from decide_eq_false (by rw [List.length_map];omega)];(conv=>whnf);(repeat (refine gw rfl ?_;conv=>whnf));refine ⟨by omega,?_⟩;(conv=>whnf);refine ⟨i+1,[(60,some 60)],[],?_,by omega,by omega⟩;((conv=>whnf);repeat (first | exact ⟨⟩ | (refine ⟨by first | rfl | (simp;done) | (simp;omega),?_⟩;conv=>whnf)))
      ·clear hb;repeat (refine gw rfl ?_;conv=>whnf)
set_option maxRecDepth 10000 in
theorem Tryz.Ya (gs:List Gt) (roles bases:List Tm) (ins:List In) (ini next legal:List Int) (gl sl:List Ot) (term:Int) (hid:Bool) (hgl:gs.length≤16384)
  (hg:∀ i (hi:i<gs.length),TP bases.length ins.length i gs[i]∧gs[i].2.2.length≤1000000)
  (c1:Pure Tryz.prog 53 [(ig gs roles bases ins ini next legal (gl.map aV) (sl.map aV) term hid)] [.bool true]) (c2:Pure Tryz.prog 54 [(ig gs roles bases ins ini next legal (gl.map aV) (sl.map aV) term hid)] [.bool true]) (c3:Pure Tryz.prog 55 [(ig gs roles bases ins ini next legal (gl.map aV) (sl.map aV) term hid)] [.bool true]) :
  Pure Tryz.prog 16 [(ig gs roles bases ins ini next legal (gl.map aV) (sl.map aV) term hid)] [.int .i64 0]:=by
 refine Pure.of_wp hT (nt:=_) (c:=_) Tryz.func16 rfl rfl rfl rfl (by kernel_rfl) ?_;intro w0 ok0 β0;repeat (refine gw rfl ?_;conv=>whnf)
 rw [List.length_map,show decide (((gs.length:Nat):Int)>16384)=false from decide_eq_false (by omega)];conv=>whnf
 repeat (refine gw rfl ?_;conv=>whnf)
 refine WP.loop (α:=Nat) (fun i=>⟨[(1,.d (.ref (ig gs roles bases ins ini next legal (gl.map aV) (sl.map aV) term hid).cells 0)),(3,.d (.int .i64 i))],[],[]⟩) (fun i=>i≤gs.length) (fun i=>gs.length-i) 0 [] [] ?_ ?_ ?_
 ·((conv=>whnf);repeat (first | exact ⟨⟩ | (refine ⟨by first | rfl | (simp;done) | (simp;omega),?_⟩;conv=>whnf)))
 ·exact Nat.zero_le _
 ·intro i hi;repeat (refine gw rfl ?_;conv=>whnf)
  rw [List.length_map];(split<;>rename_i hb<;>(try rw [hb])<;>(conv=>whnf))
  ·have hlt:i<gs.length:=(by simpa using hb);clear hb;(repeat (refine gw rfl ?_;conv=>whnf));refine .inl ⟨_,Tryz.Zm gs roles bases ins ini next legal (gl.map aV) (sl.map aV) term hid i hlt (hg i hlt).1 (hg i hlt).2,.inl rfl,?_⟩;(conv=>whnf);(repeat (refine gw rfl ?_;conv=>whnf));refine ⟨by omega,?_⟩;(conv=>whnf);refine ⟨i+1,[],[],?_,by omega,by omega⟩;((conv=>whnf);repeat (first | exact ⟨⟩ | (refine ⟨by first | rfl | (simp;done) | (simp;omega),?_⟩;conv=>whnf)))
  ·clear hb;(repeat (refine gw rfl ?_;conv=>whnf));refine .inl ⟨_,c1,.inl rfl,?_⟩;(conv=>whnf);refine .inl ⟨_,c2,.inl rfl,?_⟩;(conv=>whnf);refine .inl ⟨_,c3,.inl rfl,?_⟩;(conv=>whnf);repeat (refine gw rfl ?_;conv=>whnf)
end Go.Proofs.YtdonenoiehdahaaGreat
namespace Go.Proofs.YtdonenoiehdahaaGreat
open Go Go.Abs Go.Own
theorem yG {β:Type} {key:β→Nat} {lt:β→β→Prop} {f:Tm×Nat→List β} (hk:∀ p,∀ x∈f p,key x=p.2) (hp:∀ p,(f p).Pairwise lt) :
  ∀ (names:List Tm) (k:Nat),((names.zipIdx k).flatMap f).Pairwise fun a b=>key a<key b∨(key a=key b∧lt a b)
 | [],_ => .nil
 | r::names,k=>by
   rw [List.zipIdx_cons,List.flatMap_cons,List.pairwise_append];refine ⟨?_,yG hk hp names (k+1),fun a ha b hb=>?_⟩
   ·refine (hp (r,k)).imp_of_mem fun {a b} ha hb h => .inr ⟨?_,h⟩
    rw [hk _ _ ha,hk _ _ hb]
   ·obtain ⟨p,hm,hb⟩:=List.mem_flatMap.1 hb;have h1:=List.le_snd_of_mem_zipIdx hm;left;rw [hk _ _ ha,hk _ _ hb];show k<p.2;omega
theorem L8 {atoms:List Tm} (h:atoms.Pairwise fun a b=>aS a b<0) (names:List Tm):(aU atoms names).Pairwise fun a b=>a.1<b.1∨(a.1=b.1∧aS a.2 b.2<0):=
 yG (key:=fun x:In=>x.1) (lt:=fun a b:In=>aS a.2 b.2<0) (f:=Bv atoms) (fun p x hx=>by obtain ⟨m,_,rfl⟩:=List.mem_map.1 hx;rfl)
  (fun p=>by unfold Bv;rw [List.pairwise_map];exact nY h) names 0
theorem RN {atoms:List Tm} {val:Mi} (h:atoms.Pairwise fun a b=>aS a b<0) (names:List Tm):(rD atoms val names).Pairwise fun a b=>a.1<b.1∨(a.1=b.1∧aS a.2.2.1 b.2.2.1<0):=
 yG (key:=fun x:Ot=>x.1) (lt:=fun a b:Ot=>aS a.2.2.1 b.2.2.1<0) (f:=yY atoms val) (fun p x hx=>by obtain ⟨m,_,rfl⟩:=List.mem_map.1 hx;rfl)
  (fun p=>by unfold yY;rw [List.pairwise_map];exact nY h) names 0
theorem UM {a b:Tm} (h:aS a b<0) (ha:bF a.name=true) (la:a.args.length=0) (hb:bF b.name=true) (lb:b.args.length=0):eu a.name<eu b.name:=by
 have c1:aO a=0:=by unfold aO;rw [if_pos la,if_pos ha]
 have c2:aO b=0:=by unfold aO;rw [if_pos lb,if_pos hb]
 rw [kJ] at h;unfold lex PG at h;rw [c1,c2,if_neg (fun k=>k (uX _)),if_pos rfl] at h;unfold Own.aT at h;split at h
 ·assumption
 ·split at h<;>omega
theorem pR {atoms:List Tm} {val:Mi} {k:Nat} {r t:Tm} {x:Ot} (h:x∈iY atoms val k r t):bF t.name=true∧t.args.length=0∧eu t.name≤100∧x=(k,eu t.name,.mk [] [],ofV atoms val jY [r,t]):=by
 unfold iY at h;split at h
 ·rename_i hc;simp only [Bool.and_eq_true,decide_eq_true_eq] at hc;exact ⟨hc.1.1,hc.1.2,hc.2,List.mem_singleton.1 h⟩
 ·cases h
theorem S9 {atoms:List Tm} {val:Mi} {k:Nat} {r t:Tm} {p:Ot→Ot→Prop}:(iY atoms val k r t).Pairwise p:=by
 unfold iY;split<;>simp
theorem Qr {α β:Type} {f:α→List β} {p:α→α→Prop} {q:β→β→Prop} (h1:∀ a,(f a).Pairwise q) (h2:∀ a b,p a b→∀ x∈f a,∀ y∈f b,q x y):∀ {l:List α},l.Pairwise p→(l.flatMap f).Pairwise q
 | [],_ => .nil
 | a::l,h=>by
   have h:=List.pairwise_cons.1 h;rw [List.flatMap_cons,List.pairwise_append];refine ⟨h1 a,Qr h1 h2 h.2,fun x hx y hy=>?_⟩;obtain ⟨b,hb,hy⟩:=List.mem_flatMap.1 hy;exact h2 a b (h.1 b hb) x hx y hy
theorem O9 {atoms:List Tm} {val:Mi} (h:atoms.Pairwise fun a b=>aS a b<0) (names:List Tm):(l9 atoms val names).Pairwise fun a b=>a.1<b.1∨(a.1=b.1∧a.2.1<b.2.1):=
 yG (key:=fun x:Ot=>x.1) (lt:=fun a b:Ot=>a.2.1<b.2.1) (f:=pO atoms val) (fun p x hx=>by
   obtain ⟨m,_,hm⟩:=List.mem_flatMap.1 hx
   rw [(pR hm).2.2.2])
  (fun p=>by
   unfold pO;refine Qr (fun a=>S9) (fun a b hab x hx y hy=>?_) (nY h);obtain ⟨h1,h2,_,rfl⟩:=pR hx;obtain ⟨h3,h4,_,rfl⟩:=pR hy
   exact UM hab h1 h2 h3 h4) names 0
theorem Au (s:Str):0≤eu s:=by
 unfold eu;split
 ·rename_i h;unfold bF at h;simp only [Bool.and_eq_true,decide_eq_true_eq] at h;exact (su h.1.1.2 h.2).1
 ·exact Int.le_refl _
theorem Eh {atoms:List Tm} {val:Mi} {names:List Tm} {x:Ot} (h:x∈l9 atoms val names):J7 names.length x∧∃ args,x.2.2.2=ofV atoms val jY args:=by
 obtain ⟨p,hp,h⟩:=List.mem_flatMap.1 h;obtain ⟨m,_,hm⟩:=List.mem_flatMap.1 h;obtain ⟨_,_,h3,rfl⟩:=pR hm;exact ⟨⟨yS p hp,Au _,h3,rfl,rfl⟩,_,rfl⟩
theorem Gy {atoms:List Tm} {val:Mi} {names:List Tm} (hok:∀ x∈atoms,okT x) (hg:∀ x∈atoms,eG false 4 x=true) {x:Ot} (h:x∈rD atoms val names):P5 names.length x∧∃ args,x.2.2.2=ofV atoms val mZ args:=by
 obtain ⟨p,hp,h⟩:=List.mem_flatMap.1 h;obtain ⟨m,hm,rfl⟩:=List.mem_map.1 h;obtain ⟨t,ht,hx⟩:=jX hm;exact ⟨⟨yS p hp,rfl,(aW.1 (hok t ht)).2 m hx,rE hg m hm⟩,_,rfl⟩
theorem U8 {atoms:List Tm} {names:List Tm} (hok:∀ x∈atoms,okT x) (hg:∀ x∈atoms,eG false 4 x=true) {x:In} (h:x∈aU atoms names):okT x.2∧eG false 4 x.2=true∧x.1<names.length:=by
 obtain ⟨p,hp,h⟩:=List.mem_flatMap.1 h;obtain ⟨m,hm,rfl⟩:=List.mem_map.1 h;obtain ⟨t,ht,hx⟩:=jX hm;exact ⟨(aW.1 (hok t ht)).2 m hx,rE hg m hm,yS p hp⟩
theorem PN {atoms:List Tm} (hok:∀ x∈atoms,okT x) (hg:∀ x∈atoms,eG false 4 x=true) {x:Tm} (h:x∈ak atoms):okT x∧eG false 4 x=true:=by
 obtain ⟨t,ht,hx⟩:=jX h;exact ⟨(aW.1 (hok t ht)).2 x hx,rE hg x h⟩
theorem SA {atoms:List Tm} {hold:List Int} {bases:List Tm}:(∀ x∈AO atoms hold bases,0≤x∧x<(bases.length:Nat))∧(AO atoms hold bases).Pairwise (·<·)∧(AO atoms hold bases).length≤bases.length:=by
 unfold AO;refine ⟨fun x hx=>?_,?_,?_⟩
 ·obtain ⟨p,hp,rfl⟩:=List.mem_map.1 hx;have:=yS p (List.mem_filter.1 hp).1;omega
 ·rw [List.pairwise_map];refine List.Pairwise.filter _ ?_;rw [List.pairwise_iff_getElem];intro i j hi hj hij;rw [List.getElem_zipIdx,List.getElem_zipIdx];dsimp only;omega
 ·rw [List.length_map];exact Nat.le_trans (List.length_filter_le _ _) (by rw [List.length_zipIdx];exact Nat.le_refl _)
theorem Qw {atoms:List Tm} {val:Mi} {k:Nat} (h:dR val k) (h0:0<k) (name:Str) (args:List Tm):0≤ofV atoms val name args∧ofV atoms val name args<(k:Nat):=by
 unfold ofV;split
 ·exact ⟨Int.le_refl _,by omega⟩
 ·exact h.val h0
theorem Ef (atoms:List Tm) (val:Mi):∀ (names:List Tm) (k:Nat),((names.zipIdx k).flatMap (pO atoms val)).length≤names.length*atoms.length
 | [],_=>Nat.zero_le _
 | r::names,k=>by
   rw [List.zipIdx_cons,List.flatMap_cons,List.length_append,List.length_cons,Nat.succ_mul];have h1:=Ef atoms val names (k+1);have h2:∀ l:List Tm,(l.flatMap (iY atoms val k r)).length≤l.length:=fun l=>by
    induction l with
    | nil=>exact Nat.le_refl _
    | cons x l ih=>
      rw [List.flatMap_cons,List.length_append,List.length_cons];have:(iY atoms val k r x).length≤1:=(by unfold iY;split<;>simp);omega
   have h3:(pO atoms val (r,k)).length≤atoms.length:=Nat.le_trans (h2 _) lV;omega
theorem Gx (atoms:List Tm) (val:Mi):∀ (names:List Tm) (k:Nat),((names.zipIdx k).flatMap (yY atoms val)).length≤names.length*atoms.length
 | [],_=>Nat.zero_le _
 | r::names,k=>by
   rw [List.zipIdx_cons,List.flatMap_cons,List.length_append,List.length_cons,Nat.succ_mul];have h1:=Gx atoms val names (k+1);have h3:(yY atoms val (r,k)).length≤atoms.length:=(by unfold yY;rw [List.length_map];exact lV);omega
end Go.Proofs.YtdonenoiehdahaaGreat
namespace Go.Proofs.YtdonenoiehdahaaGreat
open Go Go.Abs Go.Own
attribute [local irreducible] WP
theorem FC.fit {nb ni i:Nat} {g:Gt} (h:FC nb ni i g):TP nb ni i g:=by
 cases h with
 | fls=>exact ⟨by simp,by simp,by simp,by simp,.nil,by simp⟩
 | tru=>exact ⟨by simp,by simp,by simp,by simp,.nil,by simp⟩
 | base k h=>exact ⟨by simp,by simp,by simp;omega,by simp,.nil,by simp⟩
 | inp k h=>exact ⟨by simp,by simp,by simp;omega,by simp,.nil,by simp⟩
 | two kind l hk hl ha hr=>
   have:1≤l.length:=(by rcases l with _ | _<;>simp at *);rcases hk with rfl | rfl
   ·exact ⟨by simp,by simp,by simp,by simp;omega,ha,hr⟩
   ·exact ⟨by simp,by simp,by simp,by simp;omega,ha,hr⟩
 | neg x hx=>exact ⟨by simp,by simp,by simp,by simp,by simp,by simpa using hx⟩
theorem vg {l:List Int} (h:l.Pairwise (·<·)):l.Nodup:=by
 rw [List.nodup_iff_pairwise_ne];exact h.imp fun h e=>by omega
theorem Tf {nb ni:Nat} {gs:List Gt} (h:P8 nb ni gs) (hl:gs.length≤16384):∀ i (hi:i<gs.length),TP nb ni i gs[i]∧gs[i].2.2.length≤1000000:=fun i hi=>by
 have h1:=(h i hi).fit;exact ⟨h1,Nat.le_trans (DC (vg h1.asc) h1.ran) (by omega)⟩
theorem JI {atoms:List Tm} {rules:List Gr} (h:dZ atoms.length rules):∀ r∈rules,oJ atoms.length r:=fun r hr=>h.body r hr
theorem WO {atoms names:List Tm} {rules:List Gr} {G:List (List Nat)} (hin:dZ atoms.length rules) (hR:aX names=true):(csN atoms rules names G).1.1.length≤iT atoms.length rules G:=by
 have h1:=(Pz (names:=names) (G:=G) (JI hin)).2.2.2;have h2:=V5 (atoms:=atoms) hR;unfold iT;omega
structure NT (gs:List Gt) (roles bases:List Tm) (ins:List In) (ini next legal:List Int) (gl sl:List Ot) (term:Int):Prop where
 len:gs.length≤16384
 gates:∀ i (hi:i<gs.length),TP bases.length ins.length i gs[i]∧gs[i].2.2.length≤1000000
 r1:1≤roles.length
 r4:roles.length≤4
 rol:∀ i (hi:i<roles.length),roles[i].args.length=0∧nameB roles[i].name=true∧∀ k (hk:k<i),roles[k].name≠roles[i].name
 b1:bases.length≤1000
 i1:ins.length≤1000
 n1:ini.length≤1000
 bs:∀ x∈bases,okT x∧eG false 4 x=true
 ba:bases.Pairwise fun a b=>aS a b<0
 is:∀ x∈ins,okT x.2∧eG false 4 x.2=true∧x.1<roles.length
 ia:ins.Pairwise fun a b=>a.1<b.1∨(a.1=b.1∧aS a.2 b.2<0)
 ns:∀ x∈ini,0≤x∧x<(bases.length:Nat)
 na:ini.Pairwise (·<·)
 x1:next.length=bases.length
 x2:legal.length=ins.length
 g1:gl.length≤1000
 s1:sl.length≤1000
 gf:∀ x∈gl,J7 roles.length x
 ga:gl.Pairwise fun a b=>a.1<b.1∨(a.1=b.1∧a.2.1<b.2.1)
 sf:∀ x∈sl,P5 roles.length x
 sa:sl.Pairwise fun a b=>a.1<b.1∨(a.1=b.1∧aS a.2.2.1 b.2.2.1<0)
 ran:∀ x∈term::next++legal++gOf gl++gOf sl,0≤x∧x<(gs.length:Nat)
theorem Tryz.checkN {gs:List Gt} {roles bases:List Tm} {ins:List In} {ini next legal:List Int} {gl sl:List Ot} {term:Int} (hid:Bool) (h:NT gs roles bases ins ini next legal gl sl term) :
  Pure Tryz.prog 16 [(ig gs roles bases ins ini next legal (gl.map aV) (sl.map aV) term hid)] [.int .i64 0]:=
 Tryz.Ya gs roles bases ins ini next legal gl sl term hid h.len h.gates (Tryz.WU gs roles bases ins ini next legal (gl.map aV) (sl.map aV) term hid h.r1 h.r4 h.rol)
  (Tryz.Xr gs roles bases ins ini next legal (gl.map aV) (sl.map aV) term hid h.b1 (Nat.le_trans h.i1 (by decide)) (Nat.le_trans h.n1 (by decide)) h.bs h.ba h.is h.ia h.ns h.na h.x1 h.x2)
  (Tryz.Sj gs roles bases ins ini next legal gl sl term hid (by rw [h.x1];exact h.b1) (by rw [h.x2];exact Nat.le_trans h.i1 (by decide)) (Nat.le_trans h.g1 (by decide)) (Nat.le_trans h.s1 (by decide)) h.gf h.ga h.sf h.sa h.ran)
theorem UR {atoms names:List Tm} {rules:List Gr} {G:List (List Nat)} (hold:List Int) (hv:aK atoms rules=true) (hok:∀ x∈atoms,okT x) (hn:atoms.length≤64) (hR:aX names=true) (hs:iT atoms.length rules G≤16384) :
  NT (csN atoms rules names G).1.1 names (ak atoms) (aU atoms names) (AO atoms hold (ak atoms)) (nextL atoms (csN atoms rules names G).2 (ak atoms)) (jq atoms (csN atoms rules names G).2 names (aU atoms names)) (l9 atoms (csN atoms rules names G).2 names) (rD atoms (csN atoms rules names G).2 names) (ofV atoms (csN atoms rules names G).2 dQ []):=by
 have hin:=eP hv;have hsz:=WO (G:=G) hin hR;obtain ⟨h1,h2,h3,_⟩:=Pz (names:=names) (G:=G) (JI hin);have hbi:=V5 (atoms:=atoms) hR;have hac:=jO hv;have hgr:∀ x∈atoms,eG false 4 x=true:=fun x hx=>(Nz hv x hx).1
 have hR2:1≤names.length∧names.length≤4:=by
  unfold aX at hR;simp only [Bool.and_eq_true,decide_eq_true_eq] at hR;exact hR.1
 have hi:=SA (atoms:=atoms) (hold:=hold) (bases:=ak atoms);have hgl:=Ef atoms (csN atoms rules names G).2 names 0;have hsl:=Gx atoms (csN atoms rules names G).2 names 0;have h256:names.length*atoms.length≤4*64:=Nat.mul_le_mul hR2.2 hn;have hlen:(csN atoms rules names G).1.1.length≤16384:=Nat.le_trans hsz hs;generalize csN atoms rules names G=c at *;have hof:=fun nm ar=>Qw (atoms:=atoms) h2 (by omega) nm ar
 exact {
  len:=hlen
  gates:=Tf h1 hlen
  r1:=hR2.1
  r4:=hR2.2
  rol:=fun i hi=>jd hR hi
  b1:=by omega
  i1:=by omega
  n1:=by omega
  bs:=fun x hx=>PN hok hgr hx
  ba:=vN hac
  is:=fun x hx=>U8 hok hgr hx
  ia:=L8 hac names
  ns:=hi.1
  na:=hi.2.1
  x1:=by unfold nextL;rw [List.length_map]
  x2:=by unfold jq;rw [List.length_map]
  g1:=by unfold l9;omega
  s1:=by unfold rD;omega
  gf:=fun x hx=>(Eh hx).1
  ga:=O9 hac names
  sf:=fun x hx=>(Gy hok hgr hx).1
  sa:=RN hac names
  ran:=fun x hx=>by
   rcases List.mem_append.1 hx with hx | hx
   ·rcases List.mem_append.1 hx with hx | hx
    ·rcases List.mem_append.1 hx with hx | hx
     ·rcases List.mem_cons.1 hx with rfl | hx
      ·exact hof _ _
      ·obtain ⟨t,_,rfl⟩:=List.mem_map.1 hx;exact hof _ _
     ·obtain ⟨t,_,rfl⟩:=List.mem_map.1 hx;exact hof _ _
    ·obtain ⟨t,ht,rfl⟩:=List.mem_map.1 hx;obtain ⟨ar,e⟩:=(Eh ht).2;rw [e];exact hof _ _
   ·obtain ⟨t,ht,rfl⟩:=List.mem_map.1 hx;obtain ⟨ar,e⟩:=(Gy hok hgr ht).2
    rw [e];exact hof _ _ }
end Go.Proofs.YtdonenoiehdahaaGreat
namespace Go.Own
def inI (l:List Int) (n:Int):Bool:=l.any fun x=>x==n
def QG (st inp:List Int) (g:Gt):Bool:=if g.1=3 then inI inp g.2.1 else if g.1=2 then inI st g.2.1 else (decide (g.1=1)||decide (g.1=4))
def mV (out:List Bool) (k:Int):Bool:=out.getD k.toNat false
def xJ (out:List Bool) (kind:Int) (v:Bool) (k:Int):Bool:=if kind=4 then v&&mV out k else if kind=5 then v||mV out k else if kind=6 then !mV out k else v
theorem TV (out:List Bool) (kind:Int) (v:Bool) (k:Int):xJ out kind v k=if kind=4 then v&&mV out k else if kind=5 then v||mV out k else if kind=6 then !mV out k else v:=rfl
def Hu (st inp:List Int) (out:List Bool) (g:Gt):Bool:=g.2.2.foldl (xJ out g.1) (QG st inp g)
def Ja (st inp:List Int) (out:List Bool) (g:Gt):List Bool:=out++[Hu st inp out g]
def valsF (st inp:List Int) (gs:List Gt):List Bool:=gs.foldl (Ja st inp) []
theorem oK (st inp:List Int) (gs:List Gt):(valsF st inp gs).length=gs.length:=by
 have:∀ (l:List Gt) (o:List Bool),(l.foldl (Ja st inp) o).length=o.length+l.length:=fun l=>by
  induction l with
  | nil=>intro o;rfl
  | cons g l ih=>intro o;rw [List.foldl_cons,ih];simp [Ja];omega
 unfold valsF;rw [this];simp
end Go.Own
namespace Go.Proofs.YtdonenoiehdahaaGreat
open Go Go.Abs Go.Own
attribute [local irreducible] WP
theorem Tryz.aap (l:List Int) (n:Int) (hl:l.length≤1000000):Pure Tryz.prog 62 [.list (l.map enI),.int .i64 n] [.bool (inI l n)]:=by
 refine Pure.of_wp hT (nt:=_) (c:=_) Tryz.func62 rfl rfl rfl rfl (by kernel_rfl) ?_;intro w0 ok0 β0;repeat (refine gw rfl ?_;conv=>whnf)
 refine WP.loop (α:=Nat) (fun i=>⟨[(0,.d (.list (l.map enI))),(1,.d (.int .i64 n)),(5,.d (.int .i64 i))],[],[]⟩) (fun i=>i≤l.length∧∀ j (hj:j<l.length),j<i→(l[j]==n)=false) (fun i=>l.length-i) 0 [] [] ?_ ?_ ?_
 ·((conv=>whnf);repeat (first | exact ⟨⟩ | (refine ⟨by first | rfl | (simp;done) | (simp;omega),?_⟩;conv=>whnf)))
 ·exact ⟨Nat.zero_le _,fun j _ hj=>by omega⟩
 ·rintro i ⟨hi,ht⟩;repeat (refine gw rfl ?_;conv=>whnf)
  rw [List.length_map];(split<;>rename_i hb<;>(try rw [hb])<;>(conv=>whnf))
  ·have hlt:i<l.length:=(by simpa using hb);clear hb;(repeat (refine gw rfl ?_;conv=>whnf));refine ⟨by omega,_,qN hlt,rfl,?_⟩;(conv=>whnf);(repeat (refine gw rfl ?_;conv=>whnf));cases hx:l[i]==n with
   | true=>
     rw [show inI l n=true from List.any_eq_true.2 ⟨_,List.getElem_mem hlt,hx⟩];(conv=>whnf);repeat (refine gw rfl ?_;conv=>whnf)
   | false=>
     (conv=>whnf);(repeat (refine gw rfl ?_;conv=>whnf));refine ⟨by omega,?_⟩;(conv=>whnf);refine ⟨i+1,[],[],?_,⟨by omega,fun j hj hji=>?_⟩,by omega⟩
     ·((conv=>whnf);repeat (first | exact ⟨⟩ | (refine ⟨by first | rfl | (simp;done) | (simp;omega),?_⟩;conv=>whnf)))
     ·rcases Nat.lt_or_ge j i with h' | h'
      ·exact ht j hj h'
      ·obtain rfl:j=i:=by omega
       exact hx
  ·have hie:i=l.length:=(by simp at hb;omega);subst hie;clear hb
   rw [show inI l n=false from List.any_eq_false.2 fun x hx=>by
    obtain ⟨j,hj,rfl⟩:=List.mem_iff_getElem.1 hx
    rw [ht j hj hj];simp]
   repeat (refine gw rfl ?_;conv=>whnf)
theorem Tryz.G7 (l:List Int) (n:Nat) (hl:l.length≤1000000) (hr:∀ x∈l,0≤x∧x<(n:Int)) (ha:l.Pairwise (·<·)):Pure Tryz.prog 61 [.list (l.map enI),.int .i64 n] [.bool true]:=by
 refine Pure.of_wp hT (nt:=_) (c:=_) Tryz.func61 rfl rfl rfl rfl (by kernel_rfl) ?_;intro w0 ok0 β0;repeat (refine gw rfl ?_;conv=>whnf)
 refine WP.loop (α:=Nat) (fun i=>⟨[(0,.d (.list (l.map enI))),(1,.d (.int .i64 n)),(5,.d (.int .i64 i))],[],[]⟩) (fun i=>i≤l.length) (fun i=>l.length-i) 0 [] [] ?_ ?_ ?_
 ·((conv=>whnf);repeat (first | exact ⟨⟩ | (refine ⟨by first | rfl | (simp;done) | (simp;omega),?_⟩;conv=>whnf)))
 ·exact Nat.zero_le _
 ·intro i hi;repeat (refine gw rfl ?_;conv=>whnf)
  rw [List.length_map];(split<;>rename_i hb<;>(try rw [hb])<;>(conv=>whnf))
  ·have hlt:i<l.length:=(by simpa using hb);clear hb;have hgt:=qN hlt;have hj:=hr _ (List.getElem_mem hlt);(repeat (refine gw rfl ?_;conv=>whnf));refine ⟨by omega,_,hgt,rfl,?_⟩;(conv=>whnf);rw [show decide (l[i]<0)=false from decide_eq_false (by omega)];(conv=>whnf);refine ⟨by omega,_,hgt,rfl,?_⟩;(conv=>whnf);rw [show decide (l[i]≥((n:Nat):Int))=false from decide_eq_false (by omega)];(conv=>whnf);cases i with
   | zero=>
     (conv=>whnf);(repeat (refine gw rfl ?_;conv=>whnf));refine ⟨by omega,?_⟩;(conv=>whnf);refine ⟨1,[],[],?_,by omega,by omega⟩;((conv=>whnf);repeat (first | exact ⟨⟩ | (refine ⟨by first | rfl | (simp;done) | (simp;omega),?_⟩;conv=>whnf)))
   | succ i=>
     have h5:=List.pairwise_iff_getElem.1 ha i (i+1) (by omega) hlt (by omega);rw [show decide ((((i+1:Nat)):Int)>0)=true from decide_eq_true (by omega)];(conv=>whnf);refine ⟨by omega,_,hgt,rfl,?_⟩;(conv=>whnf);refine ⟨by omega,?_⟩;(conv=>whnf);refine ⟨by omega,_,by rw [show (((i+1:Nat):Int)-1)=(i:Nat) by omega];exact qN (show i<l.length by omega),rfl,?_⟩;(conv=>whnf);rw [show decide (l[i+1]≤l[i])=false from decide_eq_false (by omega)];(conv=>whnf);(repeat (refine gw rfl ?_;conv=>whnf));refine ⟨by omega,?_⟩;(conv=>whnf);refine ⟨i+2,[],[],?_,by omega,by omega⟩;((conv=>whnf);repeat (first | exact ⟨⟩ | (refine ⟨by first | rfl | (simp;done) | (simp;omega),?_⟩;conv=>whnf)))
  ·clear hb;repeat (refine gw rfl ?_;conv=>whnf)
set_option maxRecDepth 10000 in
theorem Tryz.Kr (gs:List Gt) (roles bases:List Tm) (ins:List In) (ini next legal:List Int) (gl sl:List Ot) (term:Int) (hid:Bool) (st inp:List Int) (hgl:gs.length≤16384)
  (hg:∀ i (hi:i<gs.length),TP bases.length ins.length i gs[i]∧gs[i].2.2.length≤1000000)
  (hC:Pure Tryz.prog 16 [(ig gs roles bases ins ini next legal (gl.map aV) (sl.map aV) term hid)] [.int .i64 0]) (hs:st.length≤1000000) (hi:inp.length≤1000000)
  (r1:∀ x∈st,0≤x∧x<(bases.length:Int)) (a1:st.Pairwise (·<·)) (r2:∀ x∈inp,0≤x∧x<(ins.length:Int)) (a2:inp.Pairwise (·<·)) :
  Pure Tryz.prog 22 [(ig gs roles bases ins ini next legal (gl.map aV) (sl.map aV) term hid),.list (st.map enI),.list (inp.map enI)] [.list ((valsF st inp gs).map D.bool),.int .i64 0]:=by
 have hN1:Pure Tryz.prog 61 [.list (st.map enI),.int .i64 ((bases.map enT).length:Nat)] [.bool true]:=by
  rw [List.length_map];exact Tryz.G7 st bases.length hs r1 a1
 have hN2:Pure Tryz.prog 61 [.list (inp.map enI),.int .i64 ((ins.map iq).length:Nat)] [.bool true]:=by
  rw [List.length_map];exact Tryz.G7 inp ins.length hi r2 a2
 refine Pure.of_wp hT (nt:=_) (c:=_) Tryz.func22 rfl rfl rfl rfl (by kernel_rfl) ?_;intro w0 ok0 β0;repeat (refine gw rfl ?_;conv=>whnf)
 refine .inl ⟨_,hC,.inl rfl,?_⟩;conv=>whnf
 repeat (refine gw rfl ?_;conv=>whnf)
 refine .inl ⟨_,hN1,.inl rfl,?_⟩;conv=>whnf
 repeat (refine gw rfl ?_;conv=>whnf)
 refine .inl ⟨_,hN2,.inl rfl,?_⟩;conv=>whnf
 repeat (refine gw rfl ?_;conv=>whnf)
 refine WP.loop (α:=Nat) (fun i=>⟨[(1,.d (.list (st.map enI))),(2,.d (.list (inp.map enI))),(3,.d (.ref (ig gs roles bases ins ini next legal (gl.map aV) (sl.map aV) term hid).cells 0)),(8,.sl 60 1 0 i),(9,.d (.int .i64 i))],[((60,0),some (.arr 1 ((valsF st inp (gs.take i)).map D.bool)))],[60]⟩) (fun i=>i≤gs.length) (fun i=>gs.length-i) 0 [(60,none)] [] ?_ ?_ ?_
 ·((conv=>whnf);repeat (first | exact ⟨⟩ | (refine ⟨by first | rfl | (simp;done) | (simp;omega),?_⟩;conv=>whnf)))
 ·exact Nat.zero_le _
 ·intro i hi;have hvs:=fun (h:i<gs.length)=>show valsF st inp (gs.take (i+1))=valsF st inp (gs.take i)++[Hu st inp (valsF st inp (gs.take i)) gs[i]] from bn (Ja st inp) [] gs h
  have hol:(valsF st inp (gs.take i)).length=i:=by rw [oK,List.length_take];omega
  generalize hoe:valsF st inp (gs.take i)=out at hvs hol ⊢;repeat (refine gw rfl ?_;conv=>whnf)
  rw [List.length_map];(split<;>rename_i hb<;>(try rw [hb])<;>(conv=>whnf))
  ·have hlt:i<gs.length:=(by simpa using hb);clear hb;have hgt:=Yv hlt;obtain ⟨hF,hL⟩:=hg i hlt;specialize hvs hlt;generalize gs[i]=g at hvs hgt hF hL;obtain ⟨kind,idx,L⟩:=g;obtain ⟨hk,_,_,_,_,h4⟩:=hF;dsimp only at hk h4 hL hgt;obtain ⟨kd,hkd⟩:∃ kd,kd=kind:=⟨_,rfl⟩
   rw [← hkd] at hvs;(repeat (refine gw rfl ?_;conv=>whnf));refine ⟨by omega,_,hgt,rfl,?_⟩;(conv=>whnf);(repeat (refine gw rfl ?_;conv=>whnf));rcases hk with rfl | rfl | rfl | rfl | rfl | rfl | rfl
   all_goals repeat (refine gw rfl ?_;conv=>whnf)
   all_goals try
    refine .inl ⟨_,Tryz.aap _ idx (by assumption),.inl rfl,?_⟩;(conv=>whnf);repeat (refine gw rfl ?_;conv=>whnf)
   all_goals
    refine WP.loop (α:=Nat) (fun k=>⟨[(1,.d (.list (st.map enI))),(2,.d (.list (inp.map enI))),(3,.d (.ref (ig gs roles bases ins ini next legal (gl.map aV) (sl.map aV) term hid).cells 0)),(8,.sl 60 1 0 i),(9,.d (.int .i64 i)),(10,.ptr 10 0),(11,.d (.bool ((L.take k).foldl (xJ out kd) (QG st inp (kd,idx,L))))),(12,.d (.int .i64 k))],[((60,0),some (.arr 1 (out.map D.bool))),((10,0),some (.cell (.d (.int .i64 kd)))),((10,2),some (.cell (.d (.list (L.map enI)))))],[60,10]⟩) (fun k=>k≤L.length) (fun k=>L.length-k) 0 [(60,some 60),(10,some 10)] [] ?_ ?_ ?_
    ·rw [hkd];((conv=>whnf);repeat (first | exact ⟨⟩ | (refine ⟨by first | rfl | (simp;done) | (simp;omega),?_⟩;conv=>whnf)))
    ·exact Nat.zero_le _
    ·intro k hk;have hfs:=fun (h:k<L.length)=>bn (xJ out kd) (QG st inp (kd,idx,L)) L h
     generalize hve:(L.take k).foldl (xJ out kd) (QG st inp (kd,idx,L))=v at hfs ⊢;(repeat (refine gw rfl ?_;conv=>whnf));rw [List.length_map];(split<;>rename_i hb<;>(try rw [hb])<;>(conv=>whnf))
     ·have hlk:k<L.length:=(by simpa using hb);clear hb;specialize hfs hlk;have hx:=h4 _ (List.getElem_mem hlk);have hgk:=qN hlk;generalize L[k]=y at hfs hx hgk;have hgo:(out.map D.bool)[0+y.toNat]?=some (.bool (mV out y)):=by
       rw [Nat.zero_add,List.getElem?_map,List.getElem?_eq_getElem (by omega)];unfold mV;simp [show y.toNat<out.length by omega]
      rw [TV] at hfs;generalize mV out y=x at hfs hgo;rw [hkd] at hfs;(repeat (refine gw rfl ?_;conv=>whnf));refine ⟨by omega,_,hgk,rfl,?_⟩;(conv=>whnf);refine ⟨⟨by omega,by omega⟩,?_⟩;(conv=>whnf);refine ⟨_,hgo,?_⟩;(conv=>whnf);rw [hkd];(repeat (refine gw rfl ?_;conv=>whnf));cases v
      all_goals
       (conv=>whnf);(repeat (refine gw rfl ?_;conv=>whnf));refine ⟨by omega,?_⟩;(conv=>whnf);refine ⟨k+1,[(60,some 60),(10,some 10)],[],?_,by omega,by omega⟩;rw [hfs];((conv=>whnf);repeat (first | exact ⟨⟩ | (refine ⟨by first | rfl | (simp;done) | (simp;omega),?_⟩;conv=>whnf)))
     ·have hke:k=L.length:=(by simp at hb;omega);subst hke;clear hb hfs;rw [List.take_length] at hve;rw [show Hu st inp out (kd,idx,L)=v from hve] at hvs;repeat (refine gw rfl ?_;conv=>whnf)
      (refine ⟨rfl,?_⟩;(conv=>whnf);refine ⟨_,(congrArg (List.take _) List.drop_zero).trans (List.take_of_length_le (by first | (simp;done) | (simp;omega))),by first | (simp;done) | (simp;omega),?_⟩;(conv=>whnf);refine ⟨_,rfl,Nat.le_refl _,?_⟩;(conv=>whnf);refine ⟨by show (_+1)*1≤_;first | (simp;done) | (simp;omega),?_⟩;(conv=>whnf))
      (repeat (refine gw rfl ?_;conv=>whnf));refine ⟨by omega,?_⟩;(conv=>whnf);refine ⟨i+1,[(60,some 100)],[],?_,by omega,by omega⟩;rw [hvs,List.map_append];((conv=>whnf);repeat (first | exact ⟨⟩ | (refine ⟨by first | rfl | (simp;done) | (simp;omega),?_⟩;conv=>whnf)))
  ·have hie:i=gs.length:=(by simp at hb;omega);subst hie;clear hb hvs;rw [List.take_length] at hoe;rw [hoe];(repeat (refine gw rfl ?_;conv=>whnf));refine ⟨out.map D.bool,by rw [List.drop_zero];exact List.take_of_length_le (by rw [List.length_map];omega),by rw [List.length_map];omega,?_⟩;conv=>whnf
theorem WH {l:List Bool} {k:Int} (h0:0≤k) (h:k.toNat<l.length):(l.map D.bool)[k.toNat]?=some (.bool (mV l k)):=by
 rw [List.getElem?_map,List.getElem?_eq_getElem h];unfold mV;simp [h]
set_option maxRecDepth 10000 in
theorem Tryz.NV (gs:List Gt) (roles bases:List Tm) (ins:List In) (ini next legal:List Int) (gl sl:List Ot) (term:Int) (hid:Bool) (st:List Int) (v:List Bool) (h0:0≤term) (h1:term.toNat<v.length)
  (hV:Pure Tryz.prog 22 [(ig gs roles bases ins ini next legal (gl.map aV) (sl.map aV) term hid),.list (st.map enI),.list []] [.list (v.map D.bool),.int .i64 0]) :
  Pure Tryz.prog 27 [(ig gs roles bases ins ini next legal (gl.map aV) (sl.map aV) term hid),.list (st.map enI)] [.bool (mV v term),.int .i64 0]:=by
 refine Pure.of_wp hT (nt:=_) (c:=_) Tryz.func27 rfl rfl rfl rfl (by kernel_rfl) ?_;intro w0 ok0 β0;repeat (refine gw rfl ?_;conv=>whnf)
 refine .inl ⟨_,hV,.inl rfl,?_⟩;conv=>whnf
 repeat (refine gw rfl ?_;conv=>whnf)
 refine ⟨h0,_,WH h0 h1,rfl,?_⟩;conv=>whnf
 repeat (refine gw rfl ?_;conv=>whnf)
end Go.Proofs.YtdonenoiehdahaaGreat
namespace Go.Own
def Yu (acc:List Int) (y:Int):List Int:=if acc.contains y then acc else acc++[y]
def zh (m:Rows):Nat→List Int→List Int
 | 0,r=>r
 | k+1,r=>zh m k (r.foldl (fun acc x=>(rowOf m x).foldl Yu acc) r)
theorem Ep {α:Type} {f:List Int→α→List Int} {p:Int→Prop}:∀ {l:List α} {acc:List Int},(∀ x∈l,∀ acc:List Int,(∀ z∈acc,p z)→∀ z∈f acc x,p z)→(∀ z∈acc,p z)→∀ z∈l.foldl f acc,p z
 | [],_,_,h=>h
 | x::l,acc,hf,h=>Ep (l:=l) (acc:=f acc x) (fun y hy=>hf y (by simp [hy])) (hf x (by simp) acc h)
theorem xW {m:Rows} {a:Int}:∀ {k:Nat} {r:List Int},(∀ x∈r,Rch m a x)→∀ x∈zh m k r,Rch m a x
 | 0,_,h=>h
 | k+1,r,h=>xW (k:=k) (Ep (fun x hx acc hacc=>Ep (fun y hy acc hacc z hz=>by
    unfold Yu at hz;split at hz
    ·exact hacc z hz
    ·rcases List.mem_append.1 hz with hz | hz
     ·exact hacc z hz
     ·rw [List.mem_singleton.1 hz];exact .step (h x hx) hy) hacc) h)
def J3 (m:Rows) (a:Int) (r:List Int):Bool:=(rowOf m a).all (r.contains ·)&&r.all fun x=>(rowOf m x).all (r.contains ·)
theorem reach_eq {m:Rows} {a b:Int} {k:Nat} (hc:J3 m a (zh m k (rowOf m a))=true):Bl m a b=(zh m k (rowOf m a)).contains b:=by
 unfold J3 at hc;simp only [Bool.and_eq_true,List.all_eq_true,List.contains_iff_mem] at hc;rw [Bool.eq_iff_iff,iV,List.contains_iff_mem];constructor
 ·intro h
  induction h with
  | one h=>exact hc.1 _ h
  | step _ h2 ih=>exact hc.2 _ ih _ h2
 ·exact xW (fun x hx => .one hx) b
def aae (n k:Nat) (m:Rows):List (List Bool):=(List.range n).map fun a=>(List.range n).map fun b=>(zh m k (rowOf m ((a:Nat):Int))).contains ((b:Nat):Int)
theorem XW {n k:Nat} {m:Rows} (h:(List.range n).all (fun a=>J3 m ((a:Nat):Int) (zh m k (rowOf m ((a:Nat):Int))))=true):bg n m=aae n k m:=by
 unfold bg aae;refine List.map_congr_left fun a ha=>?_
 unfold tY;refine List.map_congr_left fun b _=>?_
 exact reach_eq ((List.all_eq_true.1 h) a ha)
end Go.Own
namespace Go.Proofs.YtdonenoiehdahaaGreat
open Go Go.Abs Go.Own
def recC (rules:List Gr) (g:List Nat):Bool:=g.any fun a=>(List.range rules.length).any fun i=>eH rules a i&&(rules[i]?).any fun r=>(r.2.1++r.2.2).any fun b=>(g.map fun k=>((k:Nat):Int)).contains b
theorem Qo (rules:List Gr) (g:List Nat):xU rules g=recC rules g:=by
 have h:P6 rules g↔recC rules g=true:=by
  unfold P6 recC;simp only [List.any_eq_true,Bool.and_eq_true,List.mem_range,Option.any_eq_true,List.contains_iff_mem]
 cases hc:recC rules g with
 | true=>exact Jf (h.2 hc)
 | false=>exact Oy fun k=>by rw [h.1 k] at hc;cases hc
def Vq (rules:List Gr) (g:List Nat) (c:Cs):Cs:=match recC rules g with
 | true=>bZ rules g g.length (c.1,jU g c.2)
 | false=>bZ rules g 1 c
def Ym (atoms:List Tm) (rules:List Gr) (c:Cs) (g:List Nat):Cs:=match iF (atoms.getD (g.getD 0 0) (.mk [] [])) with
 | true=>c
 | false=>Vq rules g c
def csC (atoms:List Tm) (rules:List Gr) (names:List Tm) (G:List (List Nat)):Cs:=G.foldl (Ym atoms rules) (fA atoms (iM names) (ak atoms) (aU atoms names) cs0)
theorem Zw (atoms:List Tm) (rules:List Gr) (names:List Tm) (G:List (List Nat)):csN atoms rules names G=csC atoms rules names G:=by
 unfold csN csC;congr 1;funext c g;unfold cZ Ym gV Vq;rw [Qo];cases iF (atoms.getD (g.getD 0 0) (.mk [] []))<;>cases recC rules g<;>rfl
def UC (rules:List Gr) (g:List Nat):Nat:=match recC rules g with
 | true=>g.length*(g.length+fD rules g)
 | false=>g.length+fD rules g
theorem UA (rules:List Gr) (g:List Nat):bV rules g=UC rules g:=by
 unfold bV UC;rw [Qo];cases recC rules g<;>rfl
def yD:List (List Nat):=[[4],[0,1],[2],[5],[3],[6]]
theorem JH:aQ (bg aN.length (aA aN.length dS)) aN.length=yD:=by
 rw [XW (k:=7) (by rfl)];rfl
theorem Yn:iT aN.length dS yD=34:=by
 unfold iT;rw [show bV dS=UC dS from funext (UA dS)];rfl
theorem yV:aK aN dS=true:=by rfl
theorem Om:aX dJ=true:=by rfl
theorem given0:dS.any (aZ aN)=false:=by rfl
theorem Y0:(dK (nmS aN) (dX aN dS [])).isSome=true:=by rfl
def cs1:Cs:=csC aN dS dJ yD
theorem VO:csN aN dS dJ yD=cs1:=Zw _ _ _ _
theorem ZK:mV (valsF [] [] cs1.1.1) (ofV aN cs1.2 dQ [])=true:=by rfl
theorem ZJ:mV (valsF [0] [] cs1.1.1) (ofV aN cs1.2 dQ [])=false:=by rfl
theorem ok0:∀ x∈aN,okT x:=by
 intro x hx;simp only [aN,List.mem_cons,List.not_mem_nil,or_false] at hx;rcases hx with rfl | rfl | rfl | rfl | rfl | rfl | rfl<;>simp [okT,OE,tS,tX,tA]
theorem sh0:∀ x∈aN,shT x:=by
 intro x hx;simp only [aN,List.mem_cons,List.not_mem_nil,or_false] at hx;rcases hx with rfl | rfl | rfl | rfl | rfl | rfl | rfl<;>simp [shT,RJ,tS,tX,tA]
theorem ZT:∀ x∈dJ,okT x:=by
 intro x hx;rw [List.mem_singleton.1 hx];simp [okT,OE,tX]
end Go.Proofs.YtdonenoiehdahaaGreat
namespace Go.Proofs.YtdonenoiehdahaaGreat
open Go Go.Abs Go.Own
attribute [local irreducible] WP
end Go.Proofs.YtdonenoiehdahaaGreat
