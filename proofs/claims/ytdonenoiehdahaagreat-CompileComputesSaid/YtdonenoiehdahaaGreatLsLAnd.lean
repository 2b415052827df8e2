/- (*compiler).outputs. -/
import Derived.Test.YtdonenoiehdahaaGreatLsEAnd
import Derived.Test.YtdonenoiehdahaaGreatLtJAnd
import Derived.Maps.RangeRun
import Derived.Sort.MapsRangeIn
import Derived.RangeFuncGives
import Derived.RangeFuncSeq
import Derived.Test.YtdonenoiehdahaaGreatProg
import Derived.Shelf.AbstractIn
import Derived.RangeFuncKeeps
import Derived.WalkKit
import Derived.OwnWalkIn
import Derived.TacticsInMore
import Derived.RegionIn
import Derived.LoopNIn
import Derived.LoopIn
import Derived.Sort.EncStr
import Derived.Shelf.SlIter.Sorted
import Derived.Shelf.SortM.Plain
import Derived.Shelf.SortM.SortNone
import Derived.Shelf.SlGeneric
import Derived.Ground.GgzProg
import Derived.Ground.SlgmProg
import Derived.Test.YtdonenoiehdahaaGreatGrOAnd
set_option linter.all false
namespace Go.Proofs.YtdonenoiehdahaaGreat
open Go Go.Abs Go.Own
attribute [local irreducible] WP
def Ae:Str:=[110,101,120,116]
def rF:Str:=[108,101,103,97,108]
def jY:Str:=[103,111,97,108]
def mZ:Str:=[115,101,101,115]
def dQ:Str:=[116,101,114,109,105,110,97,108]
def nextL (atoms:List Tm) (val:Mi) (bases:List Tm):List Int:=bases.map fun t=>ofV atoms val Ae [t]
def jq (atoms:List Tm) (val:Mi) (roles:List Tm) (ins:List In):List Int:=ins.map fun x=>ofV atoms val rF [dV roles x.1,x.2]
def iY (atoms:List Tm) (val:Mi) (i:Nat) (r t:Tm):List Ot:=match bF t.name&&decide (t.args.length=0)&&decide (eu t.name≤100) with
 | true=>[(i,eu t.name,.mk [] [],ofV atoms val jY [r,t])]
 | false=>[]
def CQ (atoms:List Tm) (val:Mi) (i:Nat) (r t:Tm):Ot:=(i,0,t,ofV atoms val mZ [r,t])
def pO (atoms:List Tm) (val:Mi) (p:Tm×Nat):List Ot:=(fK jY (some p.1) atoms).flatMap (iY atoms val p.2 p.1)
def yY (atoms:List Tm) (val:Mi) (p:Tm×Nat):List Ot:=(fK mZ (some p.1) atoms).map (CQ atoms val p.2 p.1)
def l9 (atoms:List Tm) (val:Mi) (roles:List Tm):List Ot:=roles.zipIdx.flatMap (pO atoms val)
def rD (atoms:List Tm) (val:Mi) (roles:List Tm):List Ot:=roles.zipIdx.flatMap (yY atoms val)
theorem jy {α β:Type} (f:α→List β) (l:List α) {i:Nat} (h:i<l.length):(l.take (i+1)).flatMap f=(l.take i).flatMap f++f l[i]:=by
 rw [List.take_succ_eq_append_getElem h,List.flatMap_append];simp
theorem jX {name:Str} {role:Option Tm} {atoms:List Tm} {x:Tm} (h:x∈fK name role atoms):∃ t∈atoms,x∈t.args:=by
 unfold fK at h;obtain ⟨t,ht,e⟩:=List.mem_filterMap.1 h;refine ⟨t,ht,?_⟩;unfold jW at e;split at e
 ·cases e
 ·split at e
  ·split at e
   ·rename_i y hy;cases e;rw [hy];simp
   ·cases e
  ·split at e
   ·rename_i a b hy;split at e
    ·cases e;rw [hy];simp
    ·cases e
   ·cases e
set_option maxRecDepth 10000 in
theorem Tryz.UE (atoms roles bases:List Tm) (ins:List In) (rules:List Gr) (val:Mi) (hn:atoms.length≤64) (hok:∀ x∈atoms,okT x) (hsh:∀ x∈atoms,shT x) (hro:∀ x∈roles,okT x) (hba:∀ x∈bases,okT x) (hin:∀ x∈ins,okT x.2∧x.1<roles.length) (hrl:roles.length≤1000) (hbl:bases.length≤1000) (hil:ins.length≤100000) :
  aH Tryz.prog 47 [201,202,203] [.ptr 201 0,.ptr 202 0]
   [((201,0),(.cell (.d (.list (atoms.map enT))))),((201,1),(.cell (.d (.list (rules.map enG))))),((201,4),(.cell (.map 203))),((203,0),(.map (mpI val))),((202,1),(.cell (.d (.list (roles.map enT))))),((202,2),(.cell (.d (.list (bases.map enT))))),((202,3),(.cell (.d (.list (ins.map iq))))),((202,5),(.cell (.aG))),((202,6),(.cell (.aG))),((202,7),(.cell (.aG))),((202,8),(.cell (.aG))),((202,9),(.cell (.d (.int .i64 0))))] [] []
   [((201,0),(.cell (.d (.list (atoms.map enT))))),((201,1),(.cell (.d (.list (rules.map enG))))),((201,4),(.cell (.map 203))),((203,0),(.map (mpI val))),((202,1),(.cell (.d (.list (roles.map enT))))),((202,2),(.cell (.d (.list (bases.map enT))))),((202,3),(.cell (.d (.list (ins.map iq))))),((202,5),(.cell (.d (.list ((nextL atoms val bases).map enI))))),((202,6),(.cell (.d (.list ((jq atoms val roles ins).map enI))))),((202,7),(.cell (.d (.list ((l9 atoms val roles).map aV))))),((202,8),(.cell (.d (.list ((rD atoms val roles).map aV))))),((202,9),(.cell (.d (.int .i64 (ofV atoms val dQ [])))))]:=by
 refine aH.of_wp hT (nt:=_) (c:=_) Tryz.func47 rfl rfl rfl rfl (by kernel_rfl) rfl rfl ?_;intro w0 ok0 wr β0;refine W1 ?_;refine W2 hT hM [2] ?_;conv=>whnf
 repeat (refine gw rfl ?_;conv=>whnf)
 refine WP.loop (α:=Nat) (fun i=>⟨[(1,.ptr 202 0),(2,.ptr 2 0),(4,.func (.func 90) [] [.ptr 2 0]),(20,.d (.list (bases.map enT))),(21,.d (.int .i64 bases.length)),(22,.d (.int .i64 i))],
   [((201,0),some (.cell (.d (.list (atoms.map enT))))),((201,1),some (.cell (.d (.list (rules.map enG))))),((201,4),some (.cell (.map 203))),((203,0),some (.map (mpI val))),((202,1),some (.cell (.d (.list (roles.map enT))))),((202,2),some (.cell (.d (.list (bases.map enT))))),((202,3),some (.cell (.d (.list (ins.map iq))))),((202,5),some (.cell (.sl 51 1 0 i))),((202,6),some (.cell (.aG))),((202,7),some (.cell (.aG))),((202,8),some (.cell (.aG))),((202,9),some (.cell (.d (.int .i64 0)))),((2,0),some (.cell (.ptr 201 0))),((51,0),some (.arr 1 (((bases.take i).map fun t=>ofV atoms val Ae [t]).map enI)))],[201,202,203,2,51]⟩)
  (fun i=>i≤bases.length) (fun i=>bases.length-i) 0 [(201,some 201),(202,some 202),(203,some 203),(2,some 2),(51,none)] [] ?_ ?_ ?_
 ·rw [List.length_map];((conv=>whnf);repeat (first | exact ⟨⟩ | (refine ⟨by first | rfl | (simp;done) | (simp;omega),?_⟩;conv=>whnf)))
 ·exact Nat.zero_le _
 ·intro i hi;repeat (refine gw rfl ?_;conv=>whnf)
  (split<;>rename_i hb<;>(try rw [hb])<;>(conv=>whnf))
  ·have hlt:i<bases.length:=(by simpa using hb);clear hb;(repeat (refine gw rfl ?_;conv=>whnf));refine ⟨by omega,_,dB hlt,rfl,?_⟩;(conv=>whnf);refine W2 hT hM [33] ?_;(conv=>whnf);refine ⟨rfl,?_⟩;(conv=>whnf);have hE:∀ y:Tm,D.agg [D.str y.name,D.list (List.map enT y.args)]=enT y:=fun y=>(bQ y).symm
   rw [hE bases[i]];refine .inr ⟨_,_,_,_,_,_,Tryz.ofH atoms rules val Ae [bases[i]] (by omega) hok (by simp) (fun x hx=>by simp at hx;rw [hx];exact hba _ (List.getElem_mem hlt)),[(0,201),(1,2),(2,203)],[],rfl,rfl,?_⟩;(conv=>whnf);refine ⟨rfl,rfl,rfl,rfl,rfl,?_⟩;conv=>whnf
   (refine ⟨rfl,?_⟩;(conv=>whnf);refine ⟨_,(congrArg (List.take _) List.drop_zero).trans (List.take_of_length_le (by first | (simp;done) | (simp;omega))),by first | (simp;done) | (simp;omega),?_⟩;(conv=>whnf);refine ⟨_,rfl,Nat.le_refl _,?_⟩;(conv=>whnf);refine ⟨by show (_+1)*8≤_;first | (simp;done) | (simp;omega),?_⟩;(conv=>whnf))
   (repeat (refine gw rfl ?_;conv=>whnf));refine ⟨by omega,?_⟩;(conv=>whnf);refine ⟨i+1,[(201,some 201),(202,some 202),(203,some 203),(2,some 2),(51,some 36)],[],?_,by omega,by omega⟩;rw [List.take_succ_eq_append_getElem hlt,List.map_append,List.map_append,List.map_singleton,List.map_singleton];((conv=>whnf);repeat (first | exact ⟨⟩ | (refine ⟨by first | rfl | (simp;done) | (simp;omega),?_⟩;conv=>whnf)))
  ·have hie:i=bases.length:=(by simp at hb;omega);subst hie;clear hb;rw [List.take_length];refine WP.weak (l':=⟨[(1,.ptr 202 0),(2,.ptr 2 0),(4,.func (.func 90) [] [.ptr 2 0])],[((201,0),some (.cell (.d (.list (atoms.map enT))))),((201,1),some (.cell (.d (.list (rules.map enG))))),((201,4),some (.cell (.map 203))),((203,0),some (.map (mpI val))),((202,1),some (.cell (.d (.list (roles.map enT))))),((202,2),some (.cell (.d (.list (bases.map enT))))),((202,3),some (.cell (.d (.list (ins.map iq))))),((202,5),some (.cell (.d (.list ((nextL atoms val bases).map enI))))),((202,6),some (.cell (.aG))),((202,7),some (.cell (.aG))),((202,8),some (.cell (.aG))),((202,9),some (.cell (.d (.int .i64 0)))),((2,0),some (.cell (.ptr 201 0)))],[201,202,203,2]⟩) [(201,some 201),(202,some 202),(203,some 203),(2,some 2)] [51] ?_ ?_
   ·((conv=>whnf);repeat (first | exact ⟨⟩ | (refine ⟨by first | rfl | (simp;done) | (simp;omega),?_⟩;conv=>whnf)));refine ⟨(nextL atoms val bases).map enI,by rw [List.drop_zero];exact List.take_of_length_le (by simp),by simp,rfl,?_⟩;((conv=>whnf);repeat (first | exact ⟨⟩ | (refine ⟨by first | rfl | (simp;done) | (simp;omega),?_⟩;conv=>whnf)))
   repeat (refine gw rfl ?_;conv=>whnf)
   refine WP.loop (α:=Nat) (fun i=>⟨[(1,.ptr 202 0),(2,.ptr 2 0),(4,.func (.func 90) [] [.ptr 2 0]),(43,.d (.list (ins.map iq))),(44,.d (.int .i64 ins.length)),(45,.d (.int .i64 i))],
     [((201,0),some (.cell (.d (.list (atoms.map enT))))),((201,1),some (.cell (.d (.list (rules.map enG))))),((201,4),some (.cell (.map 203))),((203,0),some (.map (mpI val))),((202,1),some (.cell (.d (.list (roles.map enT))))),((202,2),some (.cell (.d (.list (bases.map enT))))),((202,3),some (.cell (.d (.list (ins.map iq))))),((202,5),some (.cell (.d (.list ((nextL atoms val bases).map enI))))),((202,6),some (.cell (.sl 52 1 0 i))),((202,7),some (.cell (.aG))),((202,8),some (.cell (.aG))),((202,9),some (.cell (.d (.int .i64 0)))),((2,0),some (.cell (.ptr 201 0))),((52,0),some (.arr 1 (((ins.take i).map fun x=>ofV atoms val rF [dV roles x.1,x.2]).map enI)))],[201,202,203,2,52]⟩)
    (fun i=>i≤ins.length) (fun i=>ins.length-i) 0 [(201,some 201),(202,some 202),(203,some 203),(2,some 2),(52,none)] [] ?_ ?_ ?_
   ·rw [List.length_map];((conv=>whnf);repeat (first | exact ⟨⟩ | (refine ⟨by first | rfl | (simp;done) | (simp;omega),?_⟩;conv=>whnf)))
   ·exact Nat.zero_le _
   ·intro i hi;(repeat (refine gw rfl ?_;conv=>whnf));(split<;>rename_i hb<;>(try rw [hb])<;>(conv=>whnf))
    ·have hlt:i<ins.length:=(by simpa using hb);clear hb;obtain ⟨hio,hir⟩:=hin ins[i] (List.getElem_mem hlt);have hgi:(ins.map iq)[((i:Nat):Int).toNat]?=some (iq ins[i]):=ay hlt;have htk:=List.take_succ_eq_append_getElem hlt;generalize ins[i]=x at hio hir hgi htk;have hri:dV roles x.1=roles[x.1]:=(by unfold dV;simp [hir]);(repeat (refine gw rfl ?_;conv=>whnf));refine ⟨by omega,_,hgi,rfl,?_⟩;(conv=>whnf);refine W2 hT hM [65] ?_;(conv=>whnf);refine ⟨by omega,_,dB hir,rfl,?_⟩;(conv=>whnf);refine ⟨rfl,?_⟩;(conv=>whnf);refine ⟨rfl,?_⟩;(conv=>whnf);have hE:∀ y:Tm,D.agg [D.str y.name,D.list (List.map enT y.args)]=enT y:=fun y=>(bQ y).symm
     rw [hE x.2,hE roles[x.1]]
     refine .inr ⟨_,_,_,_,_,_,Tryz.ofH atoms rules val rF [roles[x.1],x.2] (by omega) hok (by simp) (fun y hy=>by
      simp only [List.mem_cons,List.not_mem_nil,or_false] at hy;rcases hy with rfl | rfl
      ·exact hro _ (List.getElem_mem hir)
      ·exact hio),[(0,201),(1,2),(2,203)],[],rfl,rfl,?_⟩
     (conv=>whnf);refine ⟨rfl,rfl,rfl,rfl,rfl,?_⟩;conv=>whnf
     (refine ⟨rfl,?_⟩;(conv=>whnf);refine ⟨_,(congrArg (List.take _) List.drop_zero).trans (List.take_of_length_le (by first | (simp;done) | (simp;omega))),by first | (simp;done) | (simp;omega),?_⟩;(conv=>whnf);refine ⟨_,rfl,Nat.le_refl _,?_⟩;(conv=>whnf);refine ⟨by show (_+1)*8≤_;first | (simp;done) | (simp;omega),?_⟩;(conv=>whnf))
     (repeat (refine gw rfl ?_;conv=>whnf));refine ⟨by omega,?_⟩;(conv=>whnf);refine ⟨i+1,[(201,some 201),(202,some 202),(203,some 203),(2,some 2),(52,some 68)],[],?_,by omega,by omega⟩;rw [htk,List.map_append,List.map_append,List.map_singleton,List.map_singleton,hri];((conv=>whnf);repeat (first | exact ⟨⟩ | (refine ⟨by first | rfl | (simp;done) | (simp;omega),?_⟩;conv=>whnf)))
    ·have hie:i=ins.length:=(by simp at hb;omega);subst hie;clear hb;rw [List.take_length];refine WP.weak (l':=⟨[(1,.ptr 202 0),(2,.ptr 2 0),(4,.func (.func 90) [] [.ptr 2 0])],[((201,0),some (.cell (.d (.list (atoms.map enT))))),((201,1),some (.cell (.d (.list (rules.map enG))))),((201,4),some (.cell (.map 203))),((203,0),some (.map (mpI val))),((202,1),some (.cell (.d (.list (roles.map enT))))),((202,2),some (.cell (.d (.list (bases.map enT))))),((202,3),some (.cell (.d (.list (ins.map iq))))),((202,5),some (.cell (.d (.list ((nextL atoms val bases).map enI))))),((202,6),some (.cell (.d (.list ((jq atoms val roles ins).map enI))))),((202,7),some (.cell (.aG))),((202,8),some (.cell (.aG))),((202,9),some (.cell (.d (.int .i64 0)))),((2,0),some (.cell (.ptr 201 0)))],[201,202,203,2]⟩) [(201,some 201),(202,some 202),(203,some 203),(2,some 2)] [52] ?_ ?_
     ·((conv=>whnf);repeat (first | exact ⟨⟩ | (refine ⟨by first | rfl | (simp;done) | (simp;omega),?_⟩;conv=>whnf)));refine ⟨(jq atoms val roles ins).map enI,by rw [List.drop_zero];exact List.take_of_length_le (by simp),by simp,rfl,?_⟩;((conv=>whnf);repeat (first | exact ⟨⟩ | (refine ⟨by first | rfl | (simp;done) | (simp;omega),?_⟩;conv=>whnf)))
     repeat (refine gw rfl ?_;conv=>whnf)
     refine WP.loop (α:=Nat) (fun i=>⟨[(1,.ptr 202 0),(2,.ptr 2 0),(4,.func (.func 90) [] [.ptr 2 0]),(75,.d (.list (roles.map enT))),(76,.d (.int .i64 roles.length)),(77,.d (.int .i64 i))],
       [((201,0),some (.cell (.d (.list (atoms.map enT))))),((201,1),some (.cell (.d (.list (rules.map enG))))),((201,4),some (.cell (.map 203))),((203,0),some (.map (mpI val))),((202,1),some (.cell (.d (.list (roles.map enT))))),((202,2),some (.cell (.d (.list (bases.map enT))))),((202,3),some (.cell (.d (.list (ins.map iq))))),((202,5),some (.cell (.d (.list ((nextL atoms val bases).map enI))))),((202,6),some (.cell (.d (.list ((jq atoms val roles ins).map enI))))),((202,7),some (.cell (.sl 53 5 0 ((roles.zipIdx.take i).flatMap (pO atoms val)).length))),((202,8),some (.cell (.sl 54 5 0 ((roles.zipIdx.take i).flatMap (yY atoms val)).length))),((202,9),some (.cell (.d (.int .i64 0)))),((2,0),some (.cell (.ptr 201 0))),((53,0),some (.arr 5 (((roles.zipIdx.take i).flatMap (pO atoms val)).map aV))),((54,0),some (.arr 5 (((roles.zipIdx.take i).flatMap (yY atoms val)).map aV)))],[201,202,203,2,53,54]⟩)
      (fun i=>i≤roles.length∧((roles.zipIdx.take i).flatMap (pO atoms val)).length≤64*i∧((roles.zipIdx.take i).flatMap (yY atoms val)).length≤64*i) (fun i=>roles.length-i) 0 [(201,some 201),(202,some 202),(203,some 203),(2,some 2),(53,none),(54,none)] [] ?_ ?_ ?_
     ·rw [List.length_map];((conv=>whnf);repeat (first | exact ⟨⟩ | (refine ⟨by first | rfl | (simp;done) | (simp;omega),?_⟩;conv=>whnf)))
     ·exact ⟨Nat.zero_le _,Nat.zero_le _,Nat.zero_le _⟩
     ·rintro i ⟨hi,hGl,hSl⟩;have hGs:=fun (h:i<roles.length)=>jy (pO atoms val) roles.zipIdx (i:=i) (by rw [List.length_zipIdx];exact h)
      have hSs:=fun (h:i<roles.length)=>jy (yY atoms val) roles.zipIdx (i:=i) (by rw [List.length_zipIdx];exact h)
      generalize hGe:((roles.zipIdx.take i).flatMap (pO atoms val))=Gi at hGl hGs ⊢;generalize hSe:((roles.zipIdx.take i).flatMap (yY atoms val))=Si at hSl hSs ⊢;(repeat (refine gw rfl ?_;conv=>whnf));(split<;>rename_i hb<;>(try rw [hb])<;>(conv=>whnf))
      ·have hlt:i<roles.length:=(by simpa using hb);clear hb;specialize hGs hlt;specialize hSs hlt;rw [List.getElem_zipIdx,Nat.zero_add] at hGs hSs;have okr:=hro _ (List.getElem_mem hlt);have hgr:=dB hlt;generalize roles[i]=r at hGs hSs okr hgr;have hgl:=lV (name:=jY) (role:=some r) (l:=atoms);have hsl:=lV (name:=mZ) (role:=some r) (l:=atoms);have hgk:∀ x∈fK jY (some r) atoms,okT x:=fun x hx=>by
        obtain ⟨y,hy,hxy⟩:=jX hx;exact (aW.1 (hok y hy)).2 x hxy
       have hsk:∀ x∈fK mZ (some r) atoms,okT x:=fun x hx=>by
        obtain ⟨y,hy,hxy⟩:=jX hx;exact (aW.1 (hok y hy)).2 x hxy
       (repeat (refine gw rfl ?_;conv=>whnf));refine ⟨by omega,_,hgr,rfl,?_⟩;(conv=>whnf);refine .inl ⟨_,Tryz.second atoms rules jY (some r) (by omega) hok hsh (fun r' e=>by cases e;exact okr),.inl rfl,?_⟩;(conv=>whnf);(repeat (refine gw rfl ?_;conv=>whnf));have hsgl:(fK jY (some r) atoms).length≤64:=(by omega);have hGr:pO atoms val (r,i)=(fK jY (some r) atoms).flatMap (iY atoms val i r):=rfl;rw [hGr] at hGs;generalize fK jY (some r) atoms=sg at hgl hgk hsgl hGs hGr ⊢
       refine WP.loop (α:=Nat) (fun k=>⟨[(1,.ptr 202 0),(2,.ptr 2 0),(4,.func (.func 90) [] [.ptr 2 0]),(75,.d (.list (roles.map enT))),(76,.d (.int .i64 roles.length)),(77,.d (.int .i64 i)),(9,.d (.int .i64 i)),(90,.d (.list (sg.map enT))),(91,.d (.int .i64 sg.length)),(92,.d (.int .i64 k))],
         [((201,0),some (.cell (.d (.list (atoms.map enT))))),((201,1),some (.cell (.d (.list (rules.map enG))))),((201,4),some (.cell (.map 203))),((203,0),some (.map (mpI val))),((202,1),some (.cell (.d (.list (roles.map enT))))),((202,2),some (.cell (.d (.list (bases.map enT))))),((202,3),some (.cell (.d (.list (ins.map iq))))),((202,5),some (.cell (.d (.list ((nextL atoms val bases).map enI))))),((202,6),some (.cell (.d (.list ((jq atoms val roles ins).map enI))))),((202,7),some (.cell (.sl 53 5 0 (Gi++(sg.take k).flatMap (iY atoms val i r)).length))),((202,8),some (.cell (.sl 54 5 0 Si.length))),((202,9),some (.cell (.d (.int .i64 0)))),((2,0),some (.cell (.ptr 201 0))),((53,0),some (.arr 5 ((Gi++(sg.take k).flatMap (iY atoms val i r)).map aV))),((54,0),some (.arr 5 (Si.map aV)))],[201,202,203,2,53,54]⟩)
        (fun k=>k≤sg.length∧(Gi++(sg.take k).flatMap (iY atoms val i r)).length≤64*i+k) (fun k=>sg.length-k) 0 [(201,some 201),(202,some 202),(203,some 203),(2,some 2),(53,some 53),(54,some 54)] [] ?_ ?_ ?_
       ·rw [List.length_map,List.take_zero,List.flatMap_nil,List.append_nil];((conv=>whnf);repeat (first | exact ⟨⟩ | (refine ⟨by first | rfl | (simp;done) | (simp;omega),?_⟩;conv=>whnf)))
       ·exact ⟨Nat.zero_le _,by simpa using hGl⟩
       ·rintro k ⟨hk,hKl⟩;have hKs:∀ h:k<sg.length,Gi++(sg.take (k+1)).flatMap (iY atoms val i r)=(Gi++(sg.take k).flatMap (iY atoms val i r))++iY atoms val i r sg[k]:=fun h=>by rw [jy _ _ h,List.append_assoc]
        generalize hKe:(Gi++(sg.take k).flatMap (iY atoms val i r))=Ki at hKl hKs ⊢;(repeat (refine gw rfl ?_;conv=>whnf));(split<;>rename_i hb<;>(try rw [hb])<;>(conv=>whnf))
        ·have hlk:k<sg.length:=(by simpa using hb);clear hb;specialize hKs hlk;have okt:=hgk _ (List.getElem_mem hlk);have hgt:=dB hlk;generalize sg[k]=t at hKs okt hgt;(repeat (refine gw rfl ?_;conv=>whnf));refine ⟨by omega,_,hgt,rfl,?_⟩;(conv=>whnf);(repeat (refine gw rfl ?_;conv=>whnf));refine .inl ⟨_,Tryz.number t.name,.inl rfl,?_⟩;(conv=>whnf);(repeat (refine gw rfl ?_;conv=>whnf));have hgo:∀ b,(bF t.name&&decide (t.args.length=0)&&decide (eu t.name≤100))=b→iY atoms val i r t=match b with | true=>[(i,eu t.name,.mk [] [],ofV atoms val jY [r,t])] | false=>[]:=fun b e=>by subst e;rfl
         cases hno:bF t.name with
         | false=>
           have hO:iY atoms val i r t=[]:=hgo false (by rw [hno];rfl);(conv=>whnf);(repeat (refine gw rfl ?_;conv=>whnf));refine ⟨by omega,?_⟩;(conv=>whnf);refine ⟨k+1,[(201,some 201),(202,some 202),(203,some 203),(2,some 2),(53,some 53),(54,some 54)],[],?_,⟨by omega,by rw [hKs,hO,List.append_nil];omega⟩,by omega⟩;rw [hKs,hO,List.append_nil];((conv=>whnf);repeat (first | exact ⟨⟩ | (refine ⟨by first | rfl | (simp;done) | (simp;omega),?_⟩;conv=>whnf)))
         | true=>
           (conv=>whnf);rw [show (((t.args.map enT).length:Int)==0)=decide (t.args.length=0) from by rw [List.length_map,Bool.eq_iff_iff];simp];cases hal:decide (t.args.length=0) with
           | false=>
             have hO:iY atoms val i r t=[]:=hgo false (by rw [hno,hal];rfl);(conv=>whnf);(repeat (refine gw rfl ?_;conv=>whnf));refine ⟨by omega,?_⟩;(conv=>whnf);refine ⟨k+1,[(201,some 201),(202,some 202),(203,some 203),(2,some 2),(53,some 53),(54,some 54)],[],?_,⟨by omega,by rw [hKs,hO,List.append_nil];omega⟩,by omega⟩;rw [hKs,hO,List.append_nil];((conv=>whnf);repeat (first | exact ⟨⟩ | (refine ⟨by first | rfl | (simp;done) | (simp;omega),?_⟩;conv=>whnf)))
           | true=>
             (conv=>whnf);cases hva:decide (eu t.name≤100) with
             | false=>
               have hO:iY atoms val i r t=[]:=hgo false (by rw [hno,hal,hva];rfl);(conv=>whnf);(repeat (refine gw rfl ?_;conv=>whnf));refine ⟨by omega,?_⟩;(conv=>whnf);refine ⟨k+1,[(201,some 201),(202,some 202),(203,some 203),(2,some 2),(53,some 53),(54,some 54)],[],?_,⟨by omega,by rw [hKs,hO,List.append_nil];omega⟩,by omega⟩;rw [hKs,hO,List.append_nil];((conv=>whnf);repeat (first | exact ⟨⟩ | (refine ⟨by first | rfl | (simp;done) | (simp;omega),?_⟩;conv=>whnf)))
             | true=>
               have hO:iY atoms val i r t=[(i,eu t.name,.mk [] [],ofV atoms val jY [r,t])]:=hgo true (by rw [hno,hal,hva];rfl);(conv=>whnf);refine gw rfl ?_;(conv=>whnf);refine W2 hT hM [129] ?_;(conv=>whnf);refine ⟨by omega,_,hgr,rfl,?_⟩;(conv=>whnf);refine ⟨rfl,?_⟩;(conv=>whnf);refine ⟨rfl,?_⟩;(conv=>whnf);have hE:∀ y:Tm,D.agg [D.str y.name,D.list (List.map enT y.args)]=enT y:=fun y=>(bQ y).symm
               rw [hE t,hE r]
               refine .inr ⟨_,_,_,_,_,_,Tryz.ofH atoms rules val jY [r,t] (by omega) hok (by simp) (fun y hy=>by
                simp only [List.mem_cons,List.not_mem_nil,or_false] at hy;rcases hy with rfl | rfl
                ·exact okr
                ·exact okt),[(0,201),(1,2),(2,203)],[],rfl,rfl,?_⟩
               (conv=>whnf);refine ⟨rfl,rfl,rfl,rfl,rfl,?_⟩;(conv=>whnf);refine ⟨rfl,?_⟩;(conv=>whnf);refine ⟨rfl,?_⟩;(conv=>whnf);refine ⟨rfl,?_⟩;conv=>whnf
               (refine ⟨rfl,?_⟩;(conv=>whnf);refine ⟨_,(congrArg (List.take _) List.drop_zero).trans (List.take_of_length_le (by first | (simp;done) | (simp;omega))),by first | (simp;done) | (simp;omega),?_⟩;(conv=>whnf);refine ⟨_,rfl,Nat.le_refl _,?_⟩;(conv=>whnf);refine ⟨by show (_+1)*64≤_;first | (simp;done) | (simp;omega),?_⟩;(conv=>whnf))
               (repeat (refine gw rfl ?_;conv=>whnf));refine ⟨by omega,?_⟩;(conv=>whnf);refine ⟨k+1,[(201,some 201),(202,some 202),(203,some 203),(2,some 2),(53,some 133),(54,some 54)],[],?_,⟨by omega,by rw [hKs,hO,List.length_append,List.length_singleton];omega⟩,by omega⟩;rw [hKs,hO,List.map_append,List.map_singleton,List.length_append,List.length_singleton];((conv=>whnf);repeat (first | exact ⟨⟩ | (refine ⟨by first | rfl | (simp;done) | (simp;omega),?_⟩;conv=>whnf)))
        ·have hke:k=sg.length:=(by simp at hb;omega);subst hke;clear hb hKs;rw [List.take_length] at hKe;have hKg:Gi++pO atoms val (r,i)=Ki:=(by rw [hGr];exact hKe);rw [hKe] at hGs;(repeat (refine gw rfl ?_;conv=>whnf));refine ⟨by omega,_,hgr,rfl,?_⟩;(conv=>whnf);refine .inl ⟨_,Tryz.second atoms rules mZ (some r) (by omega) hok hsh (fun r' e=>by cases e;exact okr),.inl rfl,?_⟩;(conv=>whnf);(repeat (refine gw rfl ?_;conv=>whnf));have hssl:(fK mZ (some r) atoms).length≤64:=(by omega);have hSr:yY atoms val (r,i)=(fK mZ (some r) atoms).map (CQ atoms val i r):=rfl;rw [hSr] at hSs;generalize fK mZ (some r) atoms=ss at hsl hsk hssl hSs hSr ⊢
         refine WP.loop (α:=Nat) (fun k=>⟨[(1,.ptr 202 0),(2,.ptr 2 0),(4,.func (.func 90) [] [.ptr 2 0]),(75,.d (.list (roles.map enT))),(76,.d (.int .i64 roles.length)),(77,.d (.int .i64 i)),(9,.d (.int .i64 i)),(147,.d (.list (ss.map enT))),(148,.d (.int .i64 ss.length)),(149,.d (.int .i64 k))],
           [((201,0),some (.cell (.d (.list (atoms.map enT))))),((201,1),some (.cell (.d (.list (rules.map enG))))),((201,4),some (.cell (.map 203))),((203,0),some (.map (mpI val))),((202,1),some (.cell (.d (.list (roles.map enT))))),((202,2),some (.cell (.d (.list (bases.map enT))))),((202,3),some (.cell (.d (.list (ins.map iq))))),((202,5),some (.cell (.d (.list ((nextL atoms val bases).map enI))))),((202,6),some (.cell (.d (.list ((jq atoms val roles ins).map enI))))),((202,7),some (.cell (.sl 53 5 0 Ki.length))),((202,8),some (.cell (.sl 54 5 0 (Si++(ss.take k).map (CQ atoms val i r)).length))),((202,9),some (.cell (.d (.int .i64 0)))),((2,0),some (.cell (.ptr 201 0))),((53,0),some (.arr 5 (Ki.map aV))),((54,0),some (.arr 5 ((Si++(ss.take k).map (CQ atoms val i r)).map aV)))],[201,202,203,2,53,54]⟩)
          (fun k=>k≤ss.length) (fun k=>ss.length-k) 0 [(201,some 201),(202,some 202),(203,some 203),(2,some 2),(53,some 53),(54,some 54)] [] ?_ ?_ ?_
         ·rw [List.length_map,List.take_zero,List.map_nil,List.append_nil];((conv=>whnf);repeat (first | exact ⟨⟩ | (refine ⟨by first | rfl | (simp;done) | (simp;omega),?_⟩;conv=>whnf)))
         ·exact Nat.zero_le _
         ·intro k hk;have hQs:∀ h:k<ss.length,Si++(ss.take (k+1)).map (CQ atoms val i r)=(Si++(ss.take k).map (CQ atoms val i r))++[CQ atoms val i r ss[k]]:=fun h=>by rw [List.take_succ_eq_append_getElem h,List.map_append,List.append_assoc];rfl
          have hQl:(Si++(ss.take k).map (CQ atoms val i r)).length=Si.length+k:=(by rw [List.length_append,List.length_map,List.length_take,Nat.min_eq_left hk]);generalize hQe:Si++(ss.take k).map (CQ atoms val i r)=Qi at hQs hQl ⊢;(repeat (refine gw rfl ?_;conv=>whnf));(split<;>rename_i hb<;>(try rw [hb])<;>(conv=>whnf))
          ·have hlk:k<ss.length:=(by simpa using hb);clear hb;specialize hQs hlk;have okt:=hsk _ (List.getElem_mem hlk);have hgt:=dB hlk;generalize ss[k]=t at hQs okt hgt;(repeat (refine gw rfl ?_;conv=>whnf));refine ⟨by omega,_,hgt,rfl,?_⟩;(conv=>whnf);refine W2 hT hM [169] ?_;(conv=>whnf);refine ⟨by omega,_,hgr,rfl,?_⟩;(conv=>whnf);refine ⟨rfl,?_⟩;(conv=>whnf);refine ⟨rfl,?_⟩;(conv=>whnf);have hE:∀ y:Tm,D.agg [D.str y.name,D.list (List.map enT y.args)]=enT y:=fun y=>(bQ y).symm
           rw [hE t,hE r]
           refine .inr ⟨_,_,_,_,_,_,Tryz.ofH atoms rules val mZ [r,t] (by omega) hok (by simp) (fun y hy=>by
            simp only [List.mem_cons,List.not_mem_nil,or_false] at hy;rcases hy with rfl | rfl
            ·exact okr
            ·exact okt),[(0,201),(1,2),(2,203)],[],rfl,rfl,?_⟩
           (conv=>whnf);refine ⟨rfl,rfl,rfl,rfl,rfl,?_⟩;(conv=>whnf);refine ⟨rfl,?_⟩;(conv=>whnf);refine ⟨rfl,?_⟩;conv=>whnf
           (refine ⟨rfl,?_⟩;(conv=>whnf);refine ⟨_,(congrArg (List.take _) List.drop_zero).trans (List.take_of_length_le (by first | (simp;done) | (simp;omega))),by first | (simp;done) | (simp;omega),?_⟩;(conv=>whnf);refine ⟨_,rfl,Nat.le_refl _,?_⟩;(conv=>whnf);refine ⟨by show (_+1)*64≤_;first | (simp;done) | (simp;omega),?_⟩;(conv=>whnf))
           (repeat (refine gw rfl ?_;conv=>whnf));refine ⟨by omega,?_⟩;(conv=>whnf);refine ⟨k+1,[(201,some 201),(202,some 202),(203,some 203),(2,some 2),(53,some 53),(54,some 173)],[],?_,by omega,by omega⟩;rw [hQs,List.map_append,List.map_singleton,List.length_append,List.length_singleton];unfold CQ;((conv=>whnf);repeat (first | exact ⟨⟩ | (refine ⟨by first | rfl | (simp;done) | (simp;omega),?_⟩;conv=>whnf)))
          ·have hke:k=ss.length:=(by simp at hb;omega);subst hke;clear hb hQs;rw [List.take_length] at hQe;rw [hQe] at hSs;have hkl:sg.length≤64:=hsgl;(repeat (refine gw rfl ?_;conv=>whnf));refine ⟨by omega,?_⟩;(conv=>whnf);refine ⟨i+1,[(201,some 201),(202,some 202),(203,some 203),(2,some 2),(53,some 53),(54,some 54)],[],?_,⟨by omega,by rw [hGs];omega,by rw [hSs];omega⟩,by omega⟩;rw [hGs,hSs];((conv=>whnf);repeat (first | exact ⟨⟩ | (refine ⟨by first | rfl | (simp;done) | (simp;omega),?_⟩;conv=>whnf)))
      ·have hie:i=roles.length:=(by simp at hb;omega);subst hie;clear hb hGs hSs;rw [List.take_of_length_le (by rw [List.length_zipIdx];exact Nat.le_refl _)] at hGe hSe;have hG:l9 atoms val roles=Gi:=hGe;have hS:rD atoms val roles=Si:=hSe;rw [hG,hS];refine WP.weak (l':=⟨[(1,.ptr 202 0),(2,.ptr 2 0),(4,.func (.func 90) [] [.ptr 2 0])],[((201,0),some (.cell (.d (.list (atoms.map enT))))),((201,1),some (.cell (.d (.list (rules.map enG))))),((201,4),some (.cell (.map 203))),((203,0),some (.map (mpI val))),((202,1),some (.cell (.d (.list (roles.map enT))))),((202,2),some (.cell (.d (.list (bases.map enT))))),((202,3),some (.cell (.d (.list (ins.map iq))))),((202,5),some (.cell (.d (.list ((nextL atoms val bases).map enI))))),((202,6),some (.cell (.d (.list ((jq atoms val roles ins).map enI))))),((202,7),some (.cell (.d (.list (Gi.map aV))))),((202,8),some (.cell (.d (.list (Si.map aV))))),((202,9),some (.cell (.d (.int .i64 0)))),((2,0),some (.cell (.ptr 201 0)))],[201,202,203,2]⟩) [(201,some 201),(202,some 202),(203,some 203),(2,some 2)] [53,54] ?_ ?_
       ·((conv=>whnf);repeat (first | exact ⟨⟩ | (refine ⟨by first | rfl | (simp;done) | (simp;omega),?_⟩;conv=>whnf)));refine ⟨Gi.map aV,by rw [List.drop_zero];exact List.take_of_length_le (by simp),by simp,rfl,?_⟩;((conv=>whnf);repeat (first | exact ⟨⟩ | (refine ⟨by first | rfl | (simp;done) | (simp;omega),?_⟩;conv=>whnf)));refine ⟨Si.map aV,by rw [List.drop_zero];exact List.take_of_length_le (by simp),by simp,rfl,?_⟩;((conv=>whnf);repeat (first | exact ⟨⟩ | (refine ⟨by first | rfl | (simp;done) | (simp;omega),?_⟩;conv=>whnf)))
       (repeat (refine gw rfl ?_;conv=>whnf));refine .inr ⟨_,_,_,_,_,_,Tryz.ofN atoms rules val dQ (by omega) hok,[(0,201),(1,2),(2,203)],[],rfl,rfl,?_⟩;(conv=>whnf);refine ⟨rfl,rfl,rfl,rfl,rfl,?_⟩;(conv=>whnf);refine ⟨rfl,?_⟩;(conv=>whnf);refine ⟨[(201,some 201),(202,some 202),(203,some 203)],[],?_,rfl⟩;((conv=>whnf);repeat (first | exact ⟨⟩ | (refine ⟨by first | rfl | (simp;done) | (simp;omega),?_⟩;conv=>whnf)))
end Go.Proofs.YtdonenoiehdahaaGreat
namespace Go.Own
def holdsB (str rk:List Int) (stratum round n:Int):Bool:=decide (0≤rkI rk n)&&(decide (rkI str n<stratum)||decide (rkI rk n<round))
def nR (str rk:List Int) (stratum round:Int) (r:Gr):Bool:=r.2.1.all (holdsB str rk stratum round)&&r.2.2.all fun n=>decide (rkI rk n<0)
end Go.Own
namespace Go.Proofs.YtdonenoiehdahaaGreat
open Go Go.Abs Go.Own
attribute [local irreducible] WP
theorem Tryz.Zc (str rk:List Int) (stratum round n:Int) (h0:0≤n) (h1:n.toNat<rk.length) (h2:n.toNat<str.length) (hl:rk.length≤1000) :
  aH Tryz.prog 175 [5,200] [.d (.int .i64 n),.ptr 5 0,.d (.ref [.list (str.map enI)] 0),.d (.ref [.int .i64 stratum] 0),.d (.ref [.int .i64 round] 0)]
   [((5,0),.cell (.sl 200 1 0 rk.length)),((200,0),.arr 1 (rk.map enI))] [] [.d (.bool (holdsB str rk stratum round n))]
   [((5,0),.cell (.sl 200 1 0 rk.length)),((200,0),.arr 1 (rk.map enI))]:=by
 refine aH.of_wp hT (nt:=_) (c:=_) Tryz.func175 rfl rfl rfl rfl (by kernel_rfl) rfl rfl ?_;intro w0 ok0 wr β0;repeat (refine gw rfl ?_;conv=>whnf)
 refine ⟨⟨h0,by omega⟩,?_⟩;conv=>whnf
 refine ⟨_,sN h1,?_⟩;conv=>whnf
 have hB0:∀ b,decide (rkI rk n≥0)=b→holdsB str rk stratum round n=(b&&(decide (rkI str n<stratum)||decide (rkI rk n<round))):=fun b e=>by subst e;rfl
 cases ha:decide (rkI rk n≥0) with
 | false=>
   have hB:holdsB str rk stratum round n=false:=hB0 _ ha;(conv=>whnf);(repeat (refine gw rfl ?_;conv=>whnf));refine ⟨[(5,some 5),(200,some 200)],[],?_,rfl⟩;rw [hB];((conv=>whnf);repeat (first | exact ⟨⟩ | (refine ⟨by first | rfl | (simp;done) | (simp;omega),?_⟩;conv=>whnf)))
 | true=>
   have hB1:=hB0 _ ha;rw [Bool.true_and] at hB1;(conv=>whnf);refine ⟨h0,_,OW h2,rfl,?_⟩;(conv=>whnf);cases hb:decide (rkI str n<stratum) with
   | true=>
     have hB:holdsB str rk stratum round n=true:=(by rw [hB1,hb];rfl);(conv=>whnf);(repeat (refine gw rfl ?_;conv=>whnf));refine ⟨[(5,some 5),(200,some 200)],[],?_,rfl⟩;rw [hB];((conv=>whnf);repeat (first | exact ⟨⟩ | (refine ⟨by first | rfl | (simp;done) | (simp;omega),?_⟩;conv=>whnf)))
   | false=>
     have hB:holdsB str rk stratum round n=decide (rkI rk n<round):=(by rw [hB1,hb];rfl);(conv=>whnf);refine ⟨⟨h0,by omega⟩,?_⟩;(conv=>whnf);refine ⟨_,sN h1,?_⟩;(conv=>whnf);(repeat (refine gw rfl ?_;conv=>whnf));refine ⟨[(5,some 5),(200,some 200)],[],?_,rfl⟩;rw [hB];((conv=>whnf);repeat (first | exact ⟨⟩ | (refine ⟨by first | rfl | (simp;done) | (simp;omega),?_⟩;conv=>whnf)))
theorem Tryz.aao (str rk:List Int) (stratum round n:Int) (h0:0≤n) (h1:n.toNat<rk.length) (h2:n.toNat<str.length) (hl:rk.length≤1000) :
  aH Tryz.prog 177 [9,5,200] [.d (.int .i64 n),.ptr 9 0] [((9,0),.cell (.func (.func 175) [] [.ptr 5 0,.d (.ref [.list (str.map enI)] 0),.d (.ref [.int .i64 stratum] 0),.d (.ref [.int .i64 round] 0)])),((5,0),.cell (.sl 200 1 0 rk.length)),((200,0),.arr 1 (rk.map enI))] [] [.d (.bool (!holdsB str rk stratum round n))] [((9,0),.cell (.func (.func 175) [] [.ptr 5 0,.d (.ref [.list (str.map enI)] 0),.d (.ref [.int .i64 stratum] 0),.d (.ref [.int .i64 round] 0)])),((5,0),.cell (.sl 200 1 0 rk.length)),((200,0),.arr 1 (rk.map enI))]:=by
 refine aH.of_wp hT (nt:=_) (c:=_) Tryz.func177 rfl rfl rfl rfl (by kernel_rfl) rfl rfl ?_;intro w0 ok0 wr β0;repeat (refine gw rfl ?_;conv=>whnf)
 refine .inr ⟨_,_,_,_,_,_,Tryz.Zc str rk stratum round n h0 h1 h2 hl,[(5,5),(200,200)],[],rfl,rfl,?_⟩;conv=>whnf
 refine ⟨rfl,rfl,?_⟩;conv=>whnf
 repeat (refine gw rfl ?_;conv=>whnf)
 refine ⟨[(9,some 9),(5,some 5),(200,some 200)],[],?_,rfl⟩;((conv=>whnf);repeat (first | exact ⟨⟩ | (refine ⟨by first | rfl | (simp;done) | (simp;omega),?_⟩;conv=>whnf)))
theorem Tryz.aaq (str rk:List Int) (stratum round n:Int) (h0:0≤n) (h1:n.toNat<rk.length) (hl:rk.length≤1000) :
  aH Tryz.prog 178 [9,5,200] [.d (.int .i64 n),.ptr 5 0] [((9,0),.cell (.func (.func 175) [] [.ptr 5 0,.d (.ref [.list (str.map enI)] 0),.d (.ref [.int .i64 stratum] 0),.d (.ref [.int .i64 round] 0)])),((5,0),.cell (.sl 200 1 0 rk.length)),((200,0),.arr 1 (rk.map enI))] [] [.d (.bool (decide (rkI rk n≥0)))] [((9,0),.cell (.func (.func 175) [] [.ptr 5 0,.d (.ref [.list (str.map enI)] 0),.d (.ref [.int .i64 stratum] 0),.d (.ref [.int .i64 round] 0)])),((5,0),.cell (.sl 200 1 0 rk.length)),((200,0),.arr 1 (rk.map enI))]:=by
 refine aH.of_wp hT (nt:=_) (c:=_) Tryz.func178 rfl rfl rfl rfl (by kernel_rfl) rfl rfl ?_;intro w0 ok0 wr β0;repeat (refine gw rfl ?_;conv=>whnf)
 refine ⟨⟨h0,by omega⟩,?_⟩;conv=>whnf
 refine ⟨_,sN h1,?_⟩;conv=>whnf
 repeat (refine gw rfl ?_;conv=>whnf)
 refine ⟨[(9,some 9),(5,some 5),(200,some 200)],[],?_,rfl⟩;((conv=>whnf);repeat (first | exact ⟨⟩ | (refine ⟨by first | rfl | (simp;done) | (simp;omega),?_⟩;conv=>whnf)))
theorem Tryz.Z8 (str rk:List Int) (stratum round:Int) (hl:rk.length≤1000) (f c:Nat) (hc:c=9∨c=5) (p:Int→Bool) (l:List Int) (hll:l.length≤1000000)
  (hf:∀ x∈l,aH Tryz.prog f [9,5,200] [.d (.int .i64 x),.ptr c 0] [((9,0),.cell (.func (.func 175) [] [.ptr 5 0,.d (.ref [.list (str.map enI)] 0),.d (.ref [.int .i64 stratum] 0),.d (.ref [.int .i64 round] 0)])),((5,0),.cell (.sl 200 1 0 rk.length)),((200,0),.arr 1 (rk.map enI))] [] [.d (.bool (p x))] [((9,0),.cell (.func (.func 175) [] [.ptr 5 0,.d (.ref [.list (str.map enI)] 0),.d (.ref [.int .i64 stratum] 0),.d (.ref [.int .i64 round] 0)])),((5,0),.cell (.sl 200 1 0 rk.length)),((200,0),.arr 1 (rk.map enI))]) :
  ∃ k:Int,decide (k≥0)=l.any p∧aH Tryz.prog 133 [9,5,200] [.d (.list (l.map enI)),.func (.func f) [] [.ptr c 0]] [((9,0),.cell (.func (.func 175) [] [.ptr 5 0,.d (.ref [.list (str.map enI)] 0),.d (.ref [.int .i64 stratum] 0),.d (.ref [.int .i64 round] 0)])),((5,0),.cell (.sl 200 1 0 rk.length)),((200,0),.arr 1 (rk.map enI))] [] [.d (.int .i64 k)] [((9,0),.cell (.func (.func 175) [] [.ptr 5 0,.d (.ref [.list (str.map enI)] 0),.d (.ref [.int .i64 stratum] 0),.d (.ref [.int .i64 round] 0)])),((5,0),.cell (.sl 200 1 0 rk.length)),((200,0),.arr 1 (rk.map enI))]:=by
 refine ⟨match decide (l.findIdx p<l.length) with | true=>((l.findIdx p:Nat):Int) | false=>-1,?_,?_⟩
 ·by_cases h:l.findIdx p<l.length
  ·rw [decide_eq_true h];have:l.any p=true:=List.any_eq_true.2 ⟨l[l.findIdx p],List.getElem_mem h,List.findIdx_getElem⟩;rw [this];exact decide_eq_true (Int.natCast_nonneg _)
  ·rw [decide_eq_false h];have:l.any p=false:=Bool.eq_false_iff.2 fun e=>by
    obtain ⟨x,hx,e⟩:=List.any_eq_true.1 e;exact h (List.findIdx_lt_length_of_exists ⟨x,hx,e⟩)
   rw [this];rfl
 refine aH.of_wp hT (nt:=_) (c:=_) Tryz.func133 rfl rfl rfl rfl (by kernel_rfl) rfl rfl ?_;intro w0 ok0 wr β0;rcases hc with rfl | rfl
 ·repeat (refine gw rfl ?_;conv=>whnf)
  refine WP.loop (α:=Nat) (fun i=>⟨[(0,.d (.list (l.map enI))),(1,.func (.func f) [] [.ptr 9 0]),(7,.d (.int .i64 l.length)),(8,.d (.int .i64 i))],[((9,0),some (.cell (.func (.func 175) [] [.ptr 5 0,.d (.ref [.list (str.map enI)] 0),.d (.ref [.int .i64 stratum] 0),.d (.ref [.int .i64 round] 0)]))),((5,0),some (.cell (.sl 200 1 0 rk.length))),((200,0),some (.arr 1 (rk.map enI)))],[9,5,200]⟩)
   (fun i=>i≤l.length∧i≤l.findIdx p) (fun i=>l.length-i) 0 [(9,some 9),(5,some 5),(200,some 200)] [] ?_ ?_ ?_
  ·rw [List.length_map];((conv=>whnf);repeat (first | exact ⟨⟩ | (refine ⟨by first | rfl | (simp;done) | (simp;omega),?_⟩;conv=>whnf)))
  ·exact ⟨Nat.zero_le _,Nat.zero_le _⟩
  ·rintro i ⟨hi,hx⟩;(repeat (refine gw rfl ?_;conv=>whnf));(split<;>rename_i hb<;>(try rw [hb])<;>(conv=>whnf))
   ·have hlt:i<l.length:=(by simpa using hb);clear hb;(repeat (refine gw rfl ?_;conv=>whnf));refine ⟨by omega,_,ay hlt,rfl,?_⟩;(conv=>whnf);refine .inr ⟨_,_,_,_,_,_,hf l[i] (List.getElem_mem hlt),[(9,9),(5,5),(200,200)],[],rfl,rfl,?_⟩;(conv=>whnf);refine ⟨rfl,rfl,rfl,?_⟩;(conv=>whnf);cases hp:p l[i] with
    | true=>
      have he:l.findIdx p=i:=Nat.le_antisymm (Nat.le_of_not_lt fun h=>by have:=List.not_of_lt_findIdx h;rw [hp] at this;cases this) hx;rw [he,decide_eq_true hlt];(conv=>whnf);(repeat (refine gw rfl ?_;conv=>whnf));refine ⟨[(9,some 9),(5,some 5),(200,some 200)],[],?_,rfl⟩;((conv=>whnf);repeat (first | exact ⟨⟩ | (refine ⟨by first | rfl | (simp;done) | (simp;omega),?_⟩;conv=>whnf)))
    | false=>
      (conv=>whnf);(repeat (refine gw rfl ?_;conv=>whnf));refine ⟨by omega,?_⟩;conv=>whnf
      refine ⟨i+1,[(9,some 9),(5,some 5),(200,some 200)],[],?_,⟨by omega,Nat.lt_of_le_of_ne hx fun e=>by
       have h1:l.findIdx p<l.length:=e ▸ hlt;have h2:=List.findIdx_getElem (w:=h1);subst e
       rw [hp] at h2;cases h2⟩,by omega⟩
      ((conv=>whnf);repeat (first | exact ⟨⟩ | (refine ⟨by first | rfl | (simp;done) | (simp;omega),?_⟩;conv=>whnf)))
   ·have hii:i=l.length:=(by simp at hb;omega);subst hii;clear hb;rw [decide_eq_false (by omega)];(repeat (refine gw rfl ?_;conv=>whnf));refine ⟨[(9,some 9),(5,some 5),(200,some 200)],[],?_,rfl⟩;((conv=>whnf);repeat (first | exact ⟨⟩ | (refine ⟨by first | rfl | (simp;done) | (simp;omega),?_⟩;conv=>whnf)))
 ·repeat (refine gw rfl ?_;conv=>whnf)
  refine WP.loop (α:=Nat) (fun i=>⟨[(0,.d (.list (l.map enI))),(1,.func (.func f) [] [.ptr 5 0]),(7,.d (.int .i64 l.length)),(8,.d (.int .i64 i))],[((9,0),some (.cell (.func (.func 175) [] [.ptr 5 0,.d (.ref [.list (str.map enI)] 0),.d (.ref [.int .i64 stratum] 0),.d (.ref [.int .i64 round] 0)]))),((5,0),some (.cell (.sl 200 1 0 rk.length))),((200,0),some (.arr 1 (rk.map enI)))],[9,5,200]⟩)
   (fun i=>i≤l.length∧i≤l.findIdx p) (fun i=>l.length-i) 0 [(9,some 9),(5,some 5),(200,some 200)] [] ?_ ?_ ?_
  ·rw [List.length_map];((conv=>whnf);repeat (first | exact ⟨⟩ | (refine ⟨by first | rfl | (simp;done) | (simp;omega),?_⟩;conv=>whnf)))
  ·exact ⟨Nat.zero_le _,Nat.zero_le _⟩
  ·rintro i ⟨hi,hx⟩;(repeat (refine gw rfl ?_;conv=>whnf));(split<;>rename_i hb<;>(try rw [hb])<;>(conv=>whnf))
   ·have hlt:i<l.length:=(by simpa using hb);clear hb;(repeat (refine gw rfl ?_;conv=>whnf));refine ⟨by omega,_,ay hlt,rfl,?_⟩;(conv=>whnf);refine .inr ⟨_,_,_,_,_,_,hf l[i] (List.getElem_mem hlt),[(9,9),(5,5),(200,200)],[],rfl,rfl,?_⟩;(conv=>whnf);refine ⟨rfl,rfl,rfl,?_⟩;(conv=>whnf);cases hp:p l[i] with
    | true=>
      have he:l.findIdx p=i:=Nat.le_antisymm (Nat.le_of_not_lt fun h=>by have:=List.not_of_lt_findIdx h;rw [hp] at this;cases this) hx;rw [he,decide_eq_true hlt];(conv=>whnf);(repeat (refine gw rfl ?_;conv=>whnf));refine ⟨[(9,some 9),(5,some 5),(200,some 200)],[],?_,rfl⟩;((conv=>whnf);repeat (first | exact ⟨⟩ | (refine ⟨by first | rfl | (simp;done) | (simp;omega),?_⟩;conv=>whnf)))
    | false=>
      (conv=>whnf);(repeat (refine gw rfl ?_;conv=>whnf));refine ⟨by omega,?_⟩;conv=>whnf
      refine ⟨i+1,[(9,some 9),(5,some 5),(200,some 200)],[],?_,⟨by omega,Nat.lt_of_le_of_ne hx fun e=>by
       have h1:l.findIdx p<l.length:=e ▸ hlt;have h2:=List.findIdx_getElem (w:=h1);subst e
       rw [hp] at h2;cases h2⟩,by omega⟩
      ((conv=>whnf);repeat (first | exact ⟨⟩ | (refine ⟨by first | rfl | (simp;done) | (simp;omega),?_⟩;conv=>whnf)))
   ·have hii:i=l.length:=(by simp at hb;omega);subst hii;clear hb;rw [decide_eq_false (by omega)];(repeat (refine gw rfl ?_;conv=>whnf));refine ⟨[(9,some 9),(5,some 5),(200,some 200)],[],?_,rfl⟩;((conv=>whnf);repeat (first | exact ⟨⟩ | (refine ⟨by first | rfl | (simp;done) | (simp;omega),?_⟩;conv=>whnf)))
theorem Tryz.VP (str rk:List Int) (stratum round:Int) (hl:rk.length≤1000) (f c:Nat) (hc:c=9∨c=5) (p:Int→Bool) (l:List Int) (hll:l.length≤1000000)
  (hf:∀ x∈l,aH Tryz.prog f [9,5,200] [.d (.int .i64 x),.ptr c 0] [((9,0),.cell (.func (.func 175) [] [.ptr 5 0,.d (.ref [.list (str.map enI)] 0),.d (.ref [.int .i64 stratum] 0),.d (.ref [.int .i64 round] 0)])),((5,0),.cell (.sl 200 1 0 rk.length)),((200,0),.arr 1 (rk.map enI))] [] [.d (.bool (p x))] [((9,0),.cell (.func (.func 175) [] [.ptr 5 0,.d (.ref [.list (str.map enI)] 0),.d (.ref [.int .i64 stratum] 0),.d (.ref [.int .i64 round] 0)])),((5,0),.cell (.sl 200 1 0 rk.length)),((200,0),.arr 1 (rk.map enI))]) :
  aH Tryz.prog 104 [9,5,200] [.d (.list (l.map enI)),.func (.func f) [] [.ptr c 0]] [((9,0),.cell (.func (.func 175) [] [.ptr 5 0,.d (.ref [.list (str.map enI)] 0),.d (.ref [.int .i64 stratum] 0),.d (.ref [.int .i64 round] 0)])),((5,0),.cell (.sl 200 1 0 rk.length)),((200,0),.arr 1 (rk.map enI))] [] [.d (.bool (l.any p))] [((9,0),.cell (.func (.func 175) [] [.ptr 5 0,.d (.ref [.list (str.map enI)] 0),.d (.ref [.int .i64 stratum] 0),.d (.ref [.int .i64 round] 0)])),((5,0),.cell (.sl 200 1 0 rk.length)),((200,0),.arr 1 (rk.map enI))]:=by
 obtain ⟨k,hka,hk⟩:=Tryz.Z8 str rk stratum round hl f c hc p l hll hf;rcases hc with rfl | rfl
 ·refine aH.of_wp hT (nt:=_) (c:=_) Tryz.func104 rfl rfl rfl rfl (by kernel_rfl) rfl rfl ?_;intro w0 ok0 wr β0;repeat (refine gw rfl ?_;conv=>whnf)
  refine .inr ⟨_,_,_,_,_,_,hk,[(9,9),(5,5),(200,200)],[],rfl,rfl,?_⟩;conv=>whnf
  refine ⟨rfl,rfl,rfl,?_⟩;conv=>whnf
  repeat (refine gw rfl ?_;conv=>whnf)
  rw [← hka];refine ⟨[(9,some 9),(5,some 5),(200,some 200)],[],?_,rfl⟩;((conv=>whnf);repeat (first | exact ⟨⟩ | (refine ⟨by first | rfl | (simp;done) | (simp;omega),?_⟩;conv=>whnf)))
 ·refine aH.of_wp hT (nt:=_) (c:=_) Tryz.func104 rfl rfl rfl rfl (by kernel_rfl) rfl rfl ?_;intro w0 ok0 wr β0;repeat (refine gw rfl ?_;conv=>whnf)
  refine .inr ⟨_,_,_,_,_,_,hk,[(9,9),(5,5),(200,200)],[],rfl,rfl,?_⟩;conv=>whnf
  refine ⟨rfl,rfl,rfl,?_⟩;conv=>whnf
  repeat (refine gw rfl ?_;conv=>whnf)
  rw [← hka];refine ⟨[(9,some 9),(5,some 5),(200,some 200)],[],?_,rfl⟩;((conv=>whnf);repeat (first | exact ⟨⟩ | (refine ⟨by first | rfl | (simp;done) | (simp;omega),?_⟩;conv=>whnf)))
theorem Fz (l:List Int) (p:Int→Bool):(!l.any fun n=>!p n)=l.all p:=by
 induction l with
 | nil=>rfl
 | cons x l ih=>rw [List.any_cons,List.all_cons,← ih];cases p x<;>rfl
theorem Tryz.aac (str rk:List Int) (stratum round:Int) (r:Gr) (hl:rk.length≤1000) (h1:∀ n∈r.2.1,0≤n∧n.toNat<rk.length∧n.toNat<str.length) (h2:∀ n∈r.2.2,0≤n∧n.toNat<rk.length) (hll:r.2.1.length+r.2.2.length≤1000) :
  aH Tryz.prog 176 [9,5,200] [.d (enG r),.ptr 9 0,.ptr 5 0] [((9,0),.cell (.func (.func 175) [] [.ptr 5 0,.d (.ref [.list (str.map enI)] 0),.d (.ref [.int .i64 stratum] 0),.d (.ref [.int .i64 round] 0)])),((5,0),.cell (.sl 200 1 0 rk.length)),((200,0),.arr 1 (rk.map enI))] [] [.d (.bool (nR str rk stratum round r))] [((9,0),.cell (.func (.func 175) [] [.ptr 5 0,.d (.ref [.list (str.map enI)] 0),.d (.ref [.int .i64 stratum] 0),.d (.ref [.int .i64 round] 0)])),((5,0),.cell (.sl 200 1 0 rk.length)),((200,0),.arr 1 (rk.map enI))]:=by
 have c1:=Tryz.VP str rk stratum round hl 177 9 (.inl rfl) (fun n=>!holdsB str rk stratum round n) r.2.1 (by omega) fun n hn=>Tryz.aao str rk stratum round n (h1 n hn).1 (h1 n hn).2.1 (h1 n hn).2.2 hl
 have c2:=Tryz.VP str rk stratum round hl 178 5 (.inr rfl) (fun n=>decide (rkI rk n≥0)) r.2.2 (by omega) fun n hn=>Tryz.aaq str rk stratum round n (h2 n hn).1 (h2 n hn).2 hl
 have e1:=Fz r.2.1 (holdsB str rk stratum round);have e2:(!r.2.2.any fun n=>decide (rkI rk n≥0))=r.2.2.all fun n=>decide (rkI rk n<0):=by
  rw [← Fz];congr 1;congr 1;funext n;by_cases h:rkI rk n<0
  ·rw [decide_eq_true h,decide_eq_false (by omega)];rfl
  ·rw [decide_eq_false h,decide_eq_true (by omega)];rfl
 refine aH.of_wp hT (nt:=_) (c:=_) Tryz.func176 rfl rfl rfl rfl (by kernel_rfl) rfl rfl ?_;intro w0 ok0 wr β0;repeat (refine gw rfl ?_;conv=>whnf)
 refine .inr ⟨_,_,_,_,_,_,c1,[(9,9),(5,5),(200,200)],[],rfl,rfl,?_⟩;conv=>whnf
 refine ⟨rfl,rfl,rfl,?_⟩;conv=>whnf
 unfold nR;rw [← e1,← e2];cases r.2.1.any fun n=>!holdsB str rk stratum round n with
 | true=>
   (conv=>whnf);(repeat (refine gw rfl ?_;conv=>whnf));refine ⟨[(9,some 9),(5,some 5),(200,some 200)],[],?_,rfl⟩;((conv=>whnf);repeat (first | exact ⟨⟩ | (refine ⟨by first | rfl | (simp;done) | (simp;omega),?_⟩;conv=>whnf)))
 | false=>
   (conv=>whnf);refine .inr ⟨_,_,_,_,_,_,c2,[(9,9),(5,5),(200,200)],[],rfl,rfl,?_⟩;(conv=>whnf);refine ⟨rfl,rfl,rfl,?_⟩;(conv=>whnf);(repeat (refine gw rfl ?_;conv=>whnf));refine ⟨[(9,some 9),(5,some 5),(200,some 200)],[],?_,rfl⟩;((conv=>whnf);repeat (first | exact ⟨⟩ | (refine ⟨by first | rfl | (simp;done) | (simp;omega),?_⟩;conv=>whnf)))
theorem Tryz.Zo (str rk:List Int) (stratum round:Int) :
  aH Tryz.prog 158 [200] [.d (.list (str.map enI)),.sl 200 1 0 rk.length,.d (.int .i64 stratum),.d (.int .i64 round)] [((200,0),.arr 1 (rk.map enI))] [9,5]
   [.func (.func 176) [] [.ptr 9 0,.ptr 5 0]] [((9,0),.cell (.func (.func 175) [] [.ptr 5 0,.d (.ref [.list (str.map enI)] 0),.d (.ref [.int .i64 stratum] 0),.d (.ref [.int .i64 round] 0)])),((5,0),.cell (.sl 200 1 0 rk.length)),((200,0),.arr 1 (rk.map enI))]:=by
 refine aH.of_wp hT (nt:=_) (c:=_) Tryz.func158 rfl rfl rfl rfl (by kernel_rfl) rfl rfl ?_;intro w0 ok0 wr β0;refine W1 ?_;refine W2 hT hM [5] ?_;conv=>whnf
 repeat (refine gw rfl ?_;conv=>whnf)
 trace_state
 refine ⟨[(200,some 200),(9,some 9),(5,some 5)],[],?_,rfl⟩;((conv=>whnf);repeat (first | exact ⟨⟩ | (refine ⟨by first | rfl | (simp;done) | (simp;omega),?_⟩;conv=>whnf)))
 trace_state
end Go.Proofs.YtdonenoiehdahaaGreat
namespace Go.Keys
open Go Go.RowKit Go.ChangeMaps
section
variable {F:Fence} {n:Nat} {P:Program} (w:World) {ops:Array Oper} {rest:List Oper} {o:Oper} {a:Act} {Q:Exit→Act→World→Prop}
theorem lQ (hg:o.guard=none) (m:Operand) (t:TypeId) (hop:o.op=Op.range t m) (k e:TypeId) (ht:P.underlying t=some (.map k e)) (b:Nat) (es:Array MapEntry) (clock:Nat)
  (hm:a.eval m = .map (some b)) (hb:w.heap[b]?=some (.map es clock))
  (hK:wpListIn F n P ops Q rest (a.put o.dst (.pointer (some ⟨w.heap.size,0,none⟩))) (w.alloc (.mapIter (some b) clock #[] clock))) :
  wpListIn F n P ops Q (o::rest) a w:=by
 refine wpListIn_plain hg fun K' hK'=>?_
 unfold Oper.wpIn;refine ⟨by simp [Oper.about,hop],?_⟩;rw [Oper.semAt_plain F _ _ (by rw [hop];intro c hc';cases hc')];simp [execOp,hop,hm,run_range_map w t k e b es clock ht hb,Result.andThen];exact hK' _ _ hK
structure Seen (es:Array MapEntry) (seen:Array Nat) (xs:List (Fin es.size)):Prop where
 nd:xs.Nodup
 eq:seen.toList=xs.map fun i=>es[i].born
structure Under (es:Array MapEntry) (clock b r:Nat) (xs:List (Fin es.size)) (w:World):Prop where
 map:w.heap[b]?=some (.map es clock)
 iter:∃ seen,w.heap[r]?=some (.mapIter (some b) clock seen clock)∧Seen es seen xs
theorem Under.of_walks {es:Array MapEntry} {clock b r:Nat} {xs:List (Fin es.size)} {w w':World} (h:Under es clock b r xs w) (hk:KeepsWalks w w'):Under es clock b r xs w':=by
 obtain ⟨seen,h1,h2⟩:=h.iter;exact ⟨hk.same b _ h.map rfl,seen,hk.same r _ h1 rfl,h2⟩
theorem Under.walk {es:Array MapEntry} {clock b r:Nat} {xs:List (Fin es.size)} {w:World} (h:Under es clock b r xs w):∃ o:Obj,w.heap[r]?=some o∧o.isWalk=true:=by
 obtain ⟨seen,h1,h2⟩:=h.iter;exact ⟨_,h1,rfl⟩
theorem Zr {n:Nat} {xs:List (Fin n)} (h:xs.Nodup):xs.length≤n:=by
 have:=(List.nodup_finRange n);have h1:xs.Perm ((List.finRange n).filter fun i=>decide (i∈xs)):=(List.perm_ext_iff_of_nodup h (this.filter _)).2 fun i=>by simp
 have h2:=List.length_filter_le (fun i=>decide (i∈xs)) (List.finRange n);rw [← h1.length_eq] at h2
 simpa using h2
theorem MP {n:Nat} {xs:List (Fin n)} (h:xs.Nodup) (ha:∀ i,i∈xs):xs.Perm (List.finRange n):=
 (List.perm_ext_iff_of_nodup h (List.nodup_finRange n)).2 fun i=>⟨fun _=>List.mem_finRange i,fun _=>ha i⟩
theorem mY (hg:o.guard=none) (it:Operand) (hop:o.op=Op.next it false) (es:Array MapEntry) (clock b r:Nat) (xs:List (Fin es.size))
  (hst:(∀ m∈es.toList,m.born<clock)∧(es.toList.map (·.born)).Nodup)
  (hit:a.eval it = .pointer (some ⟨r,0,none⟩)) (h:Under es clock b r xs w) (hbr:b≠r)
  (hDone:(∀ i,i∈xs)→wpListIn F n P ops Q rest (a.put o.dst (.tuple #[.bool false])) w)
  (hMore:∀ (i:Fin es.size) (w':World),i∉xs→Under es clock b r (xs++[i]) w'→w.grownBy w' (some r)→w'.heap.size=w.heap.size →
   (Instr.entry (.pointer (some ⟨r,0,none⟩))).run P w' = .ok (.tuple #[es[i].key,es[i].val]) w'→wpListIn F n P ops Q rest (a.put o.dst (.tuple #[.bool true,es[i].key,es[i].val])) w') :
  wpListIn F n P ops Q (o::rest) a w:=by
 refine wpListIn_plain hg fun K' hK'=>?_
 unfold Oper.wpIn;refine ⟨by simp [Oper.about,hop],?_⟩;rw [Oper.semAt_plain F _ _ (by rw [hop];intro c hc';cases hc')];obtain ⟨seen,h1,h2⟩:=h.iter;have hrl:r<w.heap.size:=(Array.getElem?_eq_some_iff.1 h1).1;rcases run_next_at (P:=P) w o.type r b clock clock seen es clock h1 h.map hst.1 (Nat.le_refl _) with ⟨h0,hrun⟩ | ⟨e,he,w1,hw1,hrun⟩
 ·simp [execOp,hop,hit,hrun,Result.andThen];refine hK' _ _ (hDone fun i=>?_);have hi:es[i].born∈seen.toList:=by
   apply Decidable.by_contra;intro hn;have hm:es[i]∈leftOf es seen:=by
    unfold leftOf;rw [Array.mem_filter];refine ⟨by simp,?_⟩
    simpa using hn
   rw [Array.eq_empty_of_size_eq_zero h0] at hm;simp at hm
  rw [h2.eq] at hi;obtain ⟨j,hj,hjb⟩:=List.mem_map.1 hi;have:j=i:=by
   have hnd:=hst.2;rw [List.nodup_iff_pairwise_ne,List.pairwise_map] at hnd;rw [List.pairwise_iff_getElem] at hnd;apply Decidable.by_contra;intro hne;rcases Nat.lt_or_gt_of_ne (fun e=>hne (Fin.ext e)) with hlt | hlt
   ·exact hnd j.1 i.1 (by simp) (by simp) hlt (by simpa using hjb)
   ·exact hnd i.1 j.1 (by simp) (by simp) hlt (by simpa using hjb.symm)
  subst this;exact hj
 ·have hel:e∈es∧e.born∉seen:=by
   have he':e∈leftOf es seen:=(by simpa using he);unfold leftOf at he';rw [Array.mem_filter] at he';exact ⟨he'.1,by simpa using he'.2⟩
  obtain ⟨i,hi,rfl⟩:=Array.getElem_of_mem hel.1;simp [execOp,hop,hit,hrun,Result.andThen]
  have hnew:(⟨i,hi⟩:Fin es.size)∉xs:=fun hx=>hel.2 (by
   have:es[i].born∈seen.toList:=by rw [h2.eq];exact List.mem_map.2 ⟨⟨i,hi⟩,hx,rfl⟩
   simpa using this)
  have hw1h:w1.heap=w.heap:=by rcases hw1 with rfl | rfl<;>rfl
  have hset:(setBlock w1 r (.mapIter (some b) clock (seen.push es[i].born) clock)).heap=w.heap.setIfInBounds r (.mapIter (some b) clock (seen.push es[i].born) clock):=by
   show w1.heap.setIfInBounds _ _=_;rw [hw1h]
  have hr2:(setBlock w1 r (.mapIter (some b) clock (seen.push es[i].born) clock)).heap[r]?=some (.mapIter (some b) clock (seen.push es[i].born) clock):=by
   rw [hset];simp [hrl]
  have hb2:(setBlock w1 r (.mapIter (some b) clock (seen.push es[i].born) clock)).heap[b]?=some (.map es clock):=by
   rw [hset,Array.getElem?_setIfInBounds_ne (Ne.symm hbr)];exact h.map
  refine hK' _ _ (hMore ⟨i,hi⟩ _ hnew ⟨hb2,_,hr2,⟨?_,?_⟩⟩ ?_ ?_ ?_)
  ·exact List.nodup_append.2 ⟨h2.nd,by simp,fun a ha c hc=>by simp at hc;subst hc;exact fun e=>hnew (e ▸ ha)⟩
  ·simp [h2.eq]
  ·refine ⟨?_,?_,?_,by rw [hset];simp,fun k _ hk=>by rw [hset,Array.getElem?_setIfInBounds_ne (fun e=>hk (by rw [e]))]⟩<;>(rcases hw1 with rfl | rfl<;>rfl)
  ·rw [hset];simp
  ·exact run_entry_at _ r b clock seen es clock es[i] hr2 hb2 (by simp) hst.2
end
def QD (n r:Nat) (w:World):Nat:=match w.heap[r]? with | some (.mapIter _ _ seen _)=>n-seen.size | _=>0
theorem Under.yt {es:Array MapEntry} {clock b r:Nat} {xs:List (Fin es.size)} {w:World} (h:Under es clock b r xs w):QD es.size r w=es.size-xs.length:=by
 obtain ⟨seen,h1,h2⟩:=h.iter;unfold QD;rw [h1];show es.size-seen.size=es.size-xs.length;have:seen.size=xs.length:=by rw [← Array.length_toList,h2.eq,List.length_map]
 rw [this]
theorem Under.lt {es:Array MapEntry} {clock b r:Nat} {xs:List (Fin es.size)} {w:World} (h:Under es clock b r xs w) {i:Fin es.size} (hi:i∉xs):xs.length<es.size:=by
 obtain ⟨seen,h1,h2⟩:=h.iter;have:=Zr (List.nodup_append.2 ⟨h2.nd,(by simp:[i].Nodup),fun a ha c hc=>by simp at hc;subst hc;exact fun e=>hi (e ▸ ha)⟩);simp at this;omega
end Go.Keys
namespace Go.Proofs
open Go.RowKit Go.Sort Go.Keys
set_option maxRecDepth 100000 in
set_option maxHeartbeats 1000000 in
theorem Tryz.Y2 (F:Fence) (n:Nat) (hf:F.fn 181) (hro:F.round=none) (hn:1≤n) (l:Nat) (p:Addr) (b:Nat) (es:Array MapEntry) (clock:Nat) (kv:Fin es.size→List UInt8) (hkv:∀ i:Fin es.size,es[i].key=encStr (kv i))
  (hst:(∀ m∈es.toList,m.born<clock)∧(es.toList.map (·.born)).Nodup) (J Jx:List (Fin es.size)→World→Prop)
  (hY:∀ pre x W,J pre W→pre.length<es.size→YieldAt F (n-1) Tryz.prog l #[encStr (kv x)] W fun e W'=>(e = .returned (.bool true)∧J (pre++[x]) W'∧KeepsWalks W W')∨(e = .returned (.bool false)∧Jx (pre++[x]) W'))
  (W:World) (hJ:AbidesFrom W.heap.size J) (hm:W.cell? p=some (.map (some b))) (hb:W.heap[b]?=some (.map es clock)) (h0:J [] W) :
  CallsIn F n Tryz.prog 181 #[.func (.yield l) #[] #[],.pointer (some p)] W fun e W'=>(∃ v,e = .returned v)∧((∃ xs:List (Fin es.size),xs.Perm (List.finRange es.size)∧J xs W')∨∃ pre,True∧Jx pre W'):=by
 refine callsIn_of_wp Tryz.func181 rfl hf ?_ hro;simp only [Tryz.ntmps181,List.size_toArray,List.length_cons,List.length_nil,Nat.reduceAdd,Nat.reduceSub,Array.replicate_succ,Array.replicate_zero,List.push_toArray,List.append_toArray,List.nil_append,List.cons_append];have hbl:b<W.heap.size:=(Array.getElem?_eq_some_iff.1 hb).1
 gi_wp2_with (first
  | (gi_at_range;refine lQ _ rfl _ 186 rfl 9 4 Tryz.underlying186 b es clock rfl hb ?_)
  | gi_in)
 have hU0:Under es clock b W.heap.size [] (W.alloc (.mapIter (some b) clock #[] clock)):=⟨(Below.heap_alloc _ _ b hbl).trans hb,#[],World.alloc_heap_new W _,⟨List.nodup_nil,rfl⟩⟩;have hJ0:J [] (W.alloc (.mapIter (some b) clock #[] clock)):=hJ _ _ _ none h0 (World.grownBy_alloc W _ none) (fun r e=>by cases e);generalize W.alloc (.mapIter (some b) clock #[] clock)=W0 at hU0 hJ0 ⊢
 go_frame
 gi_loopw [3] (fun _ wr=>∃ xs:List (Fin es.size),Under es clock b W.heap.size xs wr∧J xs wr)
  (fun _ wr=>QD es.size W.heap.size wr)
 case atStart=>exact ⟨[],hU0,hJ0⟩
 case round=>
  obtain ⟨xs,hU,hJs⟩:=hrel
  gi_wp2_with (first
   | (gi_at_next;refine mY _ rfl _ rfl es clock b W.heap.size xs hst rfl hU (by omega) ?_ ?_)
   | gi_in)
  ·intro hall
   gi_wp2
   go_end0
   obtain ⟨seen,_,hs⟩:=hU.iter;exact ⟨⟨_,rfl⟩,.inl ⟨xs,MP hs.nd hall,hJs⟩⟩
  ·intro x w2 hx hU2 hg2 hs2 hen;have hJ2:J xs w2:=hJ xs wr w2 (some W.heap.size) hJs hg2 (fun r e=>by cases e;exact ⟨Nat.le_refl _,hU.walk⟩);have hlt:=hU.lt hx;have hkx:es[x.1].key=encStr (kv x):=hkv x;rw [hkx] at hen ⊢;obtain ⟨fn,tmps,assign,body,hy,hR⟩:=hY xs x w2 hJ2 hlt;clear hs2
   gi_wp2
   refine hR.mono ?_;rintro e W3 (⟨rfl,hJ3,hk3⟩ | ⟨rfl,hx3⟩)
   ·gi_wp2
    have hU3:=hU2.of_walks hk3
    go_roundw
    case rel=>exact ⟨xs++[x],hU3,hJ3⟩
    case measure=>rw [hU3.yt,hU.yt];simp;omega
   ·gi_wp2
    (try simp only [Exit.inBlock,Exit.then])
    refine bodyPost_ret (results_none rfl _ _ _) rfl ?_;exact ⟨⟨_,rfl⟩,.inr ⟨_,trivial,hx3⟩⟩
theorem Tryz.LV (F:Fence) (n:Nat) (hf:F.fn 181) (hro:F.round=none) (hn:1≤n) (p:Addr) (b:Nat) (es:Array MapEntry) (clock:Nat) (kv:Fin es.size→List UInt8) (hkv:∀ i:Fin es.size,es[i].key=encStr (kv i))
  (hst:(∀ m∈es.toList,m.born<clock)∧(es.toList.map (·.born)).Nodup) (w:World) (hm:w.cell? p=some (.map (some b))) (hb:w.heap[b]?=some (.map es clock)) :
  SeqStopsK F n Tryz.prog 181 #[.pointer (some p)] (fun i:Fin es.size=>#[encStr (kv i)]) KeepsWalks (fun xs=>xs.Perm (List.finRange es.size)) (fun _=>True) es.size w:=by
 intro l J Jx W hW hJ hJx hY h0;have hp:p.block<w.heap.size:=by
  unfold World.cell? at hm;cases ho:w.heap[p.block]? with
  | none=>simp [ho] at hm
  | some o=>exact (Array.getElem?_eq_some_iff.1 ho).1
 exact Tryz.Y2 F n hf hro hn l p b es clock kv hkv hst J Jx hY W hJ ((hW.cell hp).trans hm) ((hW.block b (Array.getElem?_eq_some_iff.1 hb).1).trans hb) h0
theorem Tryz.LW (F:Fence) (n:Nat) (hf:F.fn 181) (hro:F.round=none) (hn:1≤n) (p:Addr) (b:Nat) (es:Array MapEntry) (clock:Nat) (kv:Fin es.size→List UInt8) (hkv:∀ i:Fin es.size,es[i].key=encStr (kv i))
  (hst:(∀ m∈es.toList,m.born<clock)∧(es.toList.map (·.born)).Nodup) (w:World) (hm:w.cell? p=some (.map (some b))) (hb:w.heap[b]?=some (.map es clock)) :
  SeqGives F n Tryz.prog 181 #[.pointer (some p)] encStr (fun ss=>∃ xs:List (Fin es.size),xs.Perm (List.finRange es.size)∧ss=xs.map kv) es.size w:=by
 intro l J W hW hJ hY h0;refine (Tryz.LV F n hf hro hn p b es clock kv hkv hst w hm hb l (fun xs W=>J (xs.map kv) W) (fun _ _=>False) W hW (fun s=>hJ (s.map kv)) (fun _ _ _ _ h=>h.elim) ?_ h0).mono ?_
 ·intro pre x W1 hj hl;have:=hY (pre.map kv) (kv x) W1 hj (by simpa using hl);obtain ⟨fn,tmps,assign,body,hy,hR⟩:=this;exact ⟨fn,tmps,assign,body,hy,hR.mono fun e W' h => .inl (by simpa using h)⟩
 ·rintro e W' ⟨hv,⟨xs,hx,hj⟩ | ⟨_,_,h⟩⟩
  ·exact ⟨hv,_,⟨xs,hx,rfl⟩,hj⟩
  ·exact h.elim
end Go.Proofs
namespace Go.Proofs
open Go.RowKit Go.Maps Go.Sort Go.Shelf Go.Keys
def Tryz.sortedS_ren:Go.Shelf.Ren:=⟨fun | 6=>159 | 8=>179 | 9=>180 | 11=>190 | 13=>157 | 12=>191 | 23=>173 | 24=>174 | 14=>201 | 15=>202 | 16=>203 | 17=>204 | 18=>205 | 19=>206 | 20=>207 | 21=>208 | 22=>209 | 25=>213 | 26=>186 | 27=>187 | 28=>214 | 29=>215 | 30=>184 | 31=>217 | n=>n,fun | 26=>9 | 28=>200 | 24=>125 | 0=>0 | 3=>3 | 37=>163 | 48=>213 | 50=>47 | 4=>4 | 40=>207 | 39=>206 | 45=>103 | 5=>5 | 9=>9 | 51=>218 | 55=>222 | 57=>231 | 58=>232 | 33=>120 | n=>n,fun | n=>n⟩
theorem Tryz.sortedS:Go.Proofs.SlLaysZ.n6 Tryz.prog Tryz.sortedS_ren:={
 mixed:=by kernel_rfl
 f6:=⟨Tryz.f159.name,by decide,Tryz.func159.trans (congrArg some (by kernel_rfl))⟩
 f8:=⟨Tryz.f179.name,by decide,Tryz.func179.trans (congrArg some (by kernel_rfl))⟩
 f11:=⟨Tryz.f190.name,by decide,Tryz.func190.trans (congrArg some (by kernel_rfl))⟩
 t0:=Tryz.underlying0
 a0:=Tryz.isAgg0
 z0:=Tryz.sizeOf0
 v0:=Tryz.zeroValue0
 t24:=Tryz.underlying125
 a24:=Tryz.isAgg125
 z24:=Tryz.sizeOf125
 v24:=Tryz.zeroValue125
 t26:=Tryz.underlying9
 a26:=Tryz.isAgg9
 z26:=Tryz.sizeOf9
 v26:=Tryz.zeroValue9
 t28:=Tryz.underlying200
 a28:=Tryz.isAgg200
 z28:=Tryz.sizeOf200
 v28:=Tryz.zeroValue200
 i26:=by kernel_rfl }
def Tryz.sortS_ren:Go.Shelf.Ren:=⟨fun | 6=>180 | 8=>157 | 9=>191 | 19=>173 | 20=>174 | 21=>201 | 22=>202 | 23=>203 | 24=>204 | 25=>205 | 26=>206 | 27=>207 | 28=>208 | 29=>209 | 36=>213 | 31=>186 | 32=>187 | 37=>214 | 38=>215 | 39=>184 | 41=>217 | n=>n,fun | 27=>125 | 29=>9 | 3=>3 | 32=>163 | 26=>125 | 0=>0 | 44=>213 | 46=>47 | 4=>4 | 36=>207 | 35=>206 | 41=>103 | 5=>5 | 9=>9 | 53=>218 | 57=>222 | 63=>231 | 64=>232 | n=>n,fun | n=>n⟩
theorem Tryz.oP:Go.Proofs.SlLaysM.n6 Tryz.prog Tryz.sortS_ren:={
 mixed:=by kernel_rfl
 f6:=⟨Tryz.f180.name,by decide,Tryz.func180.trans (congrArg some (by kernel_rfl))⟩
 f8:=Tryz.func157.trans (congrArg some (by kernel_rfl))
 f9:=⟨Tryz.f191.name,by decide,Tryz.func191.trans (congrArg some (by kernel_rfl))⟩
 f19:=Tryz.func173.trans (congrArg some (by kernel_rfl))
 f20:=Tryz.func174.trans (congrArg some (by kernel_rfl))
 f21:=⟨Tryz.f201.name,by decide,Tryz.func201.trans (congrArg some (by kernel_rfl))⟩
 f22:=⟨Tryz.f202.name,by decide,Tryz.func202.trans (congrArg some (by kernel_rfl))⟩
 f23:=⟨Tryz.f203.name,by decide,Tryz.func203.trans (congrArg some (by kernel_rfl))⟩
 f24:=⟨Tryz.f204.name,by decide,Tryz.func204.trans (congrArg some (by kernel_rfl))⟩
 f25:=⟨Tryz.f205.name,by decide,Tryz.func205.trans (congrArg some (by kernel_rfl))⟩
 f26:=⟨Tryz.f206.name,by decide,Tryz.func206.trans (congrArg some (by kernel_rfl))⟩
 f27:=⟨Tryz.f207.name,by decide,Tryz.func207.trans (congrArg some (by kernel_rfl))⟩
 f28:=⟨Tryz.f208.name,by decide,Tryz.func208.trans (congrArg some (by kernel_rfl))⟩
 f29:=⟨Tryz.f209.name,by decide,Tryz.func209.trans (congrArg some (by kernel_rfl))⟩
 f31:=Tryz.func186.trans (congrArg some (by kernel_rfl))
 f32:=Tryz.func187.trans (congrArg some (by kernel_rfl))
 f36:=⟨Tryz.f213.name,by decide,Tryz.func213.trans (congrArg some (by kernel_rfl))⟩
 f37:=⟨Tryz.f214.name,by decide,Tryz.func214.trans (congrArg some (by kernel_rfl))⟩
 f38:=⟨Tryz.f215.name,by decide,Tryz.func215.trans (congrArg some (by kernel_rfl))⟩
 f39:=⟨Tryz.f184.name,by decide,Tryz.func184.trans (congrArg some (by kernel_rfl))⟩
 f41:=⟨Tryz.f217.name,by decide,Tryz.func217.trans (congrArg some (by kernel_rfl))⟩
 t0:=Tryz.underlying0
 a0:=Tryz.isAgg0
 z0:=Tryz.sizeOf0
 v0:=Tryz.zeroValue0
 t3:=Tryz.underlying3
 a3:=Tryz.isAgg3
 z3:=Tryz.sizeOf3
 v3:=Tryz.zeroValue3
 t4:=Tryz.underlying4
 a4:=Tryz.isAgg4
 z4:=Tryz.sizeOf4
 v4:=Tryz.zeroValue4
 t5:=Tryz.underlying5
 a5:=Tryz.isAgg5
 z5:=Tryz.sizeOf5
 v5:=Tryz.zeroValue5
 t9:=Tryz.underlying9
 a9:=Tryz.isAgg9
 z9:=Tryz.sizeOf9
 v9:=Tryz.zeroValue9
 t26:=Tryz.underlying125
 a26:=Tryz.isAgg125
 z26:=Tryz.sizeOf125
 v26:=Tryz.zeroValue125
 t27:=Tryz.underlying125
 a27:=Tryz.isAgg125
 z27:=Tryz.sizeOf125
 v27:=Tryz.zeroValue125
 t29:=Tryz.underlying9
 a29:=Tryz.isAgg9
 z29:=Tryz.sizeOf9
 v29:=Tryz.zeroValue9
 t32:=Tryz.underlying163
 a32:=Tryz.isAgg163
 z32:=Tryz.sizeOf163
 v32:=Tryz.zeroValue163
 t35:=Tryz.underlying206
 a35:=Tryz.isAgg206
 z35:=Tryz.sizeOf206
 v35:=Tryz.zeroValue206
 t36:=Tryz.underlying207
 a36:=Tryz.isAgg207
 z36:=Tryz.sizeOf207
 v36:=Tryz.zeroValue207
 t41:=Tryz.underlying103
 a41:=Tryz.isAgg103
 z41:=Tryz.sizeOf103
 v41:=Tryz.zeroValue103
 t44:=Tryz.underlying213
 a44:=Tryz.isAgg213
 z44:=Tryz.sizeOf213
 v44:=Tryz.zeroValue213
 t46:=Tryz.underlying47
 a46:=Tryz.isAgg47
 z46:=Tryz.sizeOf47
 v46:=Tryz.zeroValue47
 t53:=Tryz.underlying218
 a53:=Tryz.isAgg218
 z53:=Tryz.sizeOf218
 v53:=Tryz.zeroValue218
 t57:=Tryz.underlying222
 a57:=Tryz.isAgg222
 z57:=Tryz.sizeOf222
 v57:=Tryz.zeroValue222
 t63:=Tryz.underlying231
 a63:=Tryz.isAgg231
 z63:=Tryz.sizeOf231
 v63:=Tryz.zeroValue231
 t64:=Tryz.underlying232
 a64:=Tryz.isAgg232
 z64:=Tryz.sizeOf232
 v64:=Tryz.zeroValue232 }
theorem Tryz.YM (m:Nat):AnyZ.SortsIn Tryz.prog Tryz.sortedS_ren Fence.wide m:=
 ⟨fun blk off cap ss W hH hblk hsz=>callsIn_wide.2 (AnyM.slices_Sort_string Tryz.oP blk off cap ss W hH hblk hsz),
  fun p cap W=>callsIn_wide.2 (AnyM.slices_Sort_string_none Tryz.oP p cap W)⟩
theorem Tryz.N8 (p:Addr) (b:Nat) (es:Array MapEntry) (clock:Nat) (kv:Fin es.size→List UInt8) (hkv:∀ i:Fin es.size,es[i].key=encStr (kv i))
  (hst:(∀ m∈es.toList,m.born<clock)∧(es.toList.map (·.born)).Nodup) (w:World) (hm:w.cell? p=some (.map (some b))) (hb:w.heap[b]?=some (.map es clock)) (L:List (List UInt8)) (hL:((List.finRange es.size).map kv).Perm L) (hs:L.Pairwise (·≤·)) (hN:es.size≤maxLen) (hNb:es.size*16≤140737488355328) :
  Calls Tryz.prog 159 #[.func (.func 181) #[] #[.pointer (some p)]] w fun e w'=>
   ∃ v,e = .returned v∧w'.ownsRow w.heap.size 9 1 v L.length (L.map encStr)∧Below w.heap.size w w'∧(L=[]→v = .slice none 0 0):=by
 have hseq:=Tryz.LW Fence.wide 1 trivial rfl (by omega) p b es clock kv hkv hst w hm hb;have cS:=AnyZ.sorted_in Tryz.sortedS Fence.wide 4 trivial trivial trivial trivial rfl (by omega) (Tryz.YM _) (enters_of Tryz.func180 (by kernel_rfl) rfl) 181 #[.pointer (some p)] trivial (enters_of Tryz.func181 (by kernel_rfl) rfl) _ es.size hN hNb w hseq;refine (callsIn_wide.1 cS).mono ?_;rintro e w' ⟨v,ss,rfl,⟨xs,hx,rfl⟩,hrow,hnil,hB⟩;have h1:(xs.map kv).Perm L:=(hx.map kv).trans hL;have h2:((xs.map kv).mergeSort fun x y=>decide (x≤y))=L:=by
  have:=mergeSort_of_perm h1;unfold leB at this;rw [this];exact List.mergeSort_of_pairwise (hs.imp fun h=>by simpa using h)
 rw [h2,h1.length_eq] at hrow;exact ⟨v,rfl,hrow,hB,fun h0=>hnil.2 (by rw [h0] at h1;exact h1.eq_nil)⟩
end Go.Proofs
namespace Go.Proofs.YtdonenoiehdahaaGreat
open Go Go.Abs Go.Own Go.RowKit Go.Keys Go.Sort
attribute [local irreducible] WP
theorem Uo {ok':Nat→Prop} {w':World} {base t sz:Nat} {v:Value} {us:List Value} {xs:List D} (hsz:0<sz) (hw:∀ x∈xs,x.cells.length=sz) (hrow:w'.ownsRow base t sz v xs.length us)
  (hu:∀ (i:Nat) x (j:Nat) c,xs[i]?=some x→x.cells[j]?=some c→∃ u,us[i*sz+j]?=some u∧RdD ok' w' u c∧u.oneCell'=true∧c.one=true) (hb:∀ b,base≤b→b<w'.heap.size→ok' b):RdD ok' w' v (.list xs):=by
 obtain ⟨_,⟨rfl,h2⟩ | ⟨g,cap,cur,rfl,h1,h2,h3,h4,h5,h6⟩⟩:=hrow
 ·obtain rfl:xs=[]:=List.length_eq_zero_iff.1 h2;exact .lC _
 ·have key:∀ (i:Nat) x (j:Nat) c,xs[i]?=some x→x.cells[j]?=some c→∃ u,cur[i*sz+j]?=some u∧RdD ok' w' u c∧u.oneCell'=true∧c.one=true:=fun i x j c hx hc=>by
   obtain ⟨u,p1,p2⟩:=hu i x j c hx hc;refine ⟨u,?_,p2⟩;have hi:i<xs.length:=(List.getElem?_eq_some_iff.1 hx).1;have hj:j<sz:=(by rw [← hw x (List.mem_of_getElem? hx)];exact (List.getElem?_eq_some_iff.1 hc).1);have hlt:i*sz+j<xs.length*sz:=by
    have:(i+1)*sz≤xs.length*sz:=Nat.mul_le_mul_right sz hi;rw [Nat.add_mul,Nat.one_mul] at this;omega
   have h7:(cur.toList.take (xs.length*sz))[i*sz+j]?=some u:=(by rw [h6];exact p1);rw [List.getElem?_take_of_lt hlt] at h7
   simpa using h7
  refine .lst ⟨g,0,none⟩ cap sz xs (fun i j=>(cur[i*sz+j]?).getD undef) (hb g h1 (Array.getElem?_eq_some_iff.1 h2).1) rfl h3 h4 hsz (fun i x hx=>hw x (List.mem_of_getElem? hx)) (fun i x j c hx hc=>?_) (fun i x j c hx hc=>?_)
  ·obtain ⟨u,p1,p2,p3,p4⟩:=key i x j c hx hc;rw [Go.cell_of_row w' g _ cur _ (0,0) h2,Nat.zero_add,p1];exact ⟨rfl,p3,p4⟩
  ·obtain ⟨u,p1,p2,p3,p4⟩:=key i x j c hx hc;rw [p1];exact p2
theorem AQ {wr:Nat→Nat→Prop} {w w':World} (hb:Below w.heap.size w w'):Abs.Frame wr w w':=
 ⟨hb.os,hb.tape,hb.output,hb.size,fun b hb' _=>hb.block b hb',fun b c T fz hbc=>⟨c,(hb.block b (Array.getElem?_eq_some_iff.1 hbc).1).trans hbc,rfl,fun _ _=>rfl⟩⟩
theorem Tryz.ZX (es:List (D×D)):aH Tryz.prog 160 [0] [.map 0] [((0,0),.map es)] [1] [.func (.func 181) [] [.ptr 1 0]] [((0,0),.map es),((1,0),.cell (.map 0))]:=by
 refine aH.of_wp hT (nt:=_) (c:=_) Tryz.func160 rfl rfl rfl rfl (by kernel_rfl) rfl rfl ?_;intro w0 ok0 wr β0;refine W1 ?_;refine W2 hT hM [1] ?_;conv=>whnf
 repeat (refine gw rfl ?_;conv=>whnf)
 refine ⟨[(0,some 0),(1,some 1)],[],?_,rfl⟩;((conv=>whnf);repeat (first | exact ⟨⟩ | (refine ⟨by first | rfl | (simp;done) | (simp;omega),?_⟩;conv=>whnf)))
def oP (ks:List Str):List Str:=ks.mergeSort fun x y=>decide (x≤y)
theorem lT (ks:List Str):(oP ks).Perm ks:=List.mergeSort_perm _ _
theorem Jb (ks:List Str):(oP ks).Pairwise (·≤·):=by
 have:=List.pairwise_mergeSort (le:=fun x y:Str=>decide (x≤y)) (fun a b c h1 h2=>by simp only [decide_eq_true_eq] at *;exact List.le_trans h1 h2) (fun a b=>by
  simp only [Bool.or_eq_true,decide_eq_true_eq];exact List.le_total a b) ks
 exact this.imp fun h=>by simpa using h
theorem Tryz.WJ (es:List (D×D)) (ks:List Str) (hk:es.map (·.1)=ks.map D.str) (hl:ks.length≤1000000) :
  aH Tryz.prog 159 [0,1] [.func (.func 181) [] [.ptr 1 0]] [((0,0),.map es),((1,0),.cell (.map 0))] [] [.d (.list ((oP ks).map D.str))] []:=by
 refine ⟨⟨_,Tryz.func159,by kernel_rfl,rfl⟩,fun k r h=>(by cases h),fun β ok w vs hgl hokb hsz has hpre hsep hinj=>?_⟩;obtain ⟨v0,rfl⟩:∃ v0,vs=#[v0]:=by
  have h3:vs.size=1:=hsz;exact ⟨vs[0],by apply Array.ext (by simpa using h3);intro i h1 h2;match i,h2 with | 0,_=>rfl⟩
 have h0:=has 0 v0 _ rfl rfl;obtain ⟨_,_,r,ents,clock,e1,e2,e3,e4,e5⟩:=hpre (0,0) (.map es) (by simp);obtain ⟨_,b,c,T,u,g1,g2,g3,g4,g5⟩:=hpre (1,0) (.cell (.map 0)) (by simp);cases h0 with
 | func fn fs cs f cc q1 q2 q3 q4=>
   obtain rfl:fs=#[]:=Array.eq_empty_of_size_eq_zero q1;obtain ⟨p,rfl⟩:∃ p,cs=#[p]:=by
    have h3:cs.size=1:=q2;exact ⟨cs[0],by apply Array.ext (by simpa using h3);intro i h1 h2;match i,h2 with | 0,_=>rfl⟩
   have hp:=q4 0 p _ rfl rfl;cases hp with
   | ptr _ _ b' p1 p2=>
     have g1:β 1 = .pointer (some ⟨b,0,none⟩):=g1;rw [p2] at g1;obtain rfl:b'=b:=by simpa using g1
     cases g5 with
     | map _ r' s1 s2=>
       have e1:β 0 = .map (some r):=e1;rw [s2] at e1;obtain rfl:r'=r:=by simpa using e1
       have hm:w.cell? ⟨b',0,none⟩=some (.map (some r')):=(by rw [Go.cell_of_row w b' 0 c T (0,0) g2];exact g3);have hn:ents.size=ks.length:=(by rw [e3];have:=congrArg List.length hk;simpa using this);have hkv:∀ i:Fin ents.size,ents[i].key=encStr (ks[i.1]'(by rw [← hn];exact i.2))∧(ks[i.1]'(by rw [← hn];exact i.2)).length≤maxLen:=fun i=>by
        have hik:i.1<ks.length:=(by rw [← hn];exact i.2);have hie:i.1<es.length:=(by rw [← e3];exact i.2);have h1:=(e4 i.1 ents[i] es[i.1] (by simp) (by simp [hie])).1;have h2:es[i.1].1 = .str ks[i.1]:=by
         have:(es.map (·.1))[i.1]?=(ks.map D.str)[i.1]?:=by rw [hk]
         simpa [List.getElem?_map,List.getElem?_eq_getElem hik,List.getElem?_eq_getElem hie] using this
        rw [h2] at h1;revert h1;generalize ents[i].key=kk;intro h1;cases h1 with
        | str s hs=>exact ⟨rfl,hs⟩
       have hL:((List.finRange ents.size).map fun i=>ks[i.1]'(by rw [← hn];exact i.2)).Perm (oP ks):=by
        have:((List.finRange ents.size).map fun i=>ks[i.1]'(by rw [← hn];exact i.2))=ks:=by
         apply List.ext_getElem (by simp [hn]);intro i h1 h2;simp
        rw [this];exact (lT ks).symm
       have hlen:∀ s∈oP ks,s.length≤maxLen:=fun s hs=>by
        obtain ⟨i,hi,rfl⟩:=List.mem_iff_getElem.1 ((lT ks).mem_iff.1 hs);exact (hkv ⟨i,by rw [hn];exact hi⟩).2
       have hcon:=Tryz.N8 ⟨b',0,none⟩ r' ents clock _ (fun i=>(hkv i).1) e5 w hm e2 (oP ks) hL (Jb ks) (by rw [hn];exact Nat.le_trans hl (by decide)) (by rw [hn];omega);refine hcon.mono ?_;rintro e w' ⟨v,rfl,hrow,hB,_⟩
       refine ⟨v,β,fun b=>ok b∨(w.heap.size≤b∧b<w'.heap.size),rfl,fun _ _=>rfl,.d _ _ ?_,fun k r h=>(by cases h),fun k r b h=>(by cases h),fun k k' r r' b h=>(by cases h),
        fun b hb=>hb.elim (fun h=>Nat.lt_of_lt_of_le (hokb b h) hB.size) (fun h=>h.2),fun b h => .inl h,fun b hb=>hb.elim .inl (fun h => .inr (.inl h.1)),AQ hB⟩
       have hlm:(oP ks).length=((oP ks).map D.str).length:=(by simp);rw [hlm] at hrow;refine Uo (by decide) (fun x hx=>?_) hrow (fun i x j cc hx hc=>?_) (fun b h1 h2 => .inr ⟨h1,h2⟩)
       ·obtain ⟨s,_,rfl⟩:=List.mem_map.1 hx;rfl
       ·simp only [List.getElem?_map,Option.map_eq_some_iff] at hx;obtain ⟨s,hs,rfl⟩:=hx;cases j with
        | succ j=>simp [D.cells] at hc
        | zero=>
          obtain rfl:D.str s=cc:=by simpa [D.cells] using hc
          exact ⟨encStr s,by simp [hs],.str _ (hlen s (List.mem_of_getElem? hs)),rfl,rfl⟩
theorem Tryz.ascending (es:List (D×D)) (ks:List Str) (hk:es.map (·.1)=ks.map D.str) (hl:ks.length≤1000000) :
  aH Tryz.prog 151 [0] [.map 0] [((0,0),.map es)] [] [.d (.list ((oP ks).map D.str))] []:=by
 refine aH.of_wp hT (nt:=_) (c:=_) Tryz.func151 rfl rfl rfl rfl (by kernel_rfl) rfl rfl ?_;intro w0 ok0 wr β0;repeat (refine gw rfl ?_;conv=>whnf)
 refine .inr ⟨_,_,_,_,_,_,Tryz.ZX es,[(0,0),(1,4)],[4],rfl,rfl,?_⟩;conv=>whnf
 refine ⟨rfl,?_⟩;conv=>whnf
 refine .inr ⟨_,_,_,_,_,_,Tryz.WJ es ks hk hl,[(0,0),(1,4)],[],rfl,rfl,?_⟩;conv=>whnf
 refine ⟨rfl,rfl,?_⟩;conv=>whnf
 repeat (refine gw rfl ?_;conv=>whnf)
 refine ⟨[(0,some 0)],[],?_,rfl⟩;((conv=>whnf);repeat (first | exact ⟨⟩ | (refine ⟨by first | rfl | (simp;done) | (simp;omega),?_⟩;conv=>whnf)))
def lkS (es:List (Str×D)) (s:Str):Option D:=match es with | []=>none | e::es=>match decide (s=e.1) with | true=>some e.2 | false=>lkS es s
def ptS (es:List (Str×D)) (s:Str) (v:D):List (Str×D):=match es with | []=>[(s,v)] | e::es=>match decide (s=e.1) with | true=>(s,v)::es | false=>e::ptS es s v
def mpS (es:List (Str×D)):List (D×D):=es.map fun e=>(.str e.1,e.2)
theorem Pq (a b:Str):aF (D.str a).cells (D.str b).cells=decide (a=b):=by
 rw [Bool.eq_iff_iff,decide_eq_true_iff];simp [D.cells,aF,eq1]
theorem DV (s:Str):∀ es:List (Str×D),Abs.look (mpS es) (.str s)=lkS es s
 | []=>rfl
 | e::es=>by
   show (match aF (D.str s).cells (D.str e.1).cells with | true=>some e.2 | false=>Abs.look (mpS es) (.str s))=_;rw [Pq,DV s es];rfl
theorem BH (s:Str) (v:D):∀ es:List (Str×D),oC (mpS es) (.str s) v=mpS (ptS es s v)
 | []=>rfl
 | e::es=>by
   show (match aF (D.str s).cells (D.str e.1).cells with | true=>(D.str s,v)::mpS es | false=>(D.str e.1,e.2)::oC (mpS es) (.str s) v)=_;rw [Pq,BH s v es];show _=mpS (match decide (s=e.1) with | true=>(s,v)::es | false=>e::ptS es s v);cases decide (s=e.1)<;>rfl
theorem QZ (s:Str):∀ es:List (Str×D),(∀ e∈es,e.1≠s)→F7 (mpS es) (.str s)=mpS es
 | [],_=>rfl
 | e::es,h=>by
   show (match aF (D.str s).cells (D.str e.1).cells with | true=>mpS es | false=>(D.str e.1,e.2)::F7 (mpS es) (.str s))=_;rw [Pq,decide_eq_false (fun e'=>h e (by simp) e'.symm),QZ s es fun e he=>h e (by simp [he])];rfl
theorem BL {te:TE} (h:te.ks=[.s]) (hk:te.k.isAgg=false) (es:List (Str×D)):∀ e∈mpS es,bY te e.1=true:=fun e he=>by
 obtain ⟨x,_,rfl⟩:=List.mem_map.1 he;unfold bY;rw [h];simp [D.cells,gJ,kF,D.one,hk]
theorem Uy (es:List (Str×D)) (s:Str) (v:D):(ptS es s v).map (·.1)=es.map (·.1)∨(ptS es s v).map (·.1)=es.map (·.1)++[s]:=by
 induction es with
 | nil=>right;rfl
 | cons e es ih=>
   unfold ptS;by_cases h:s=e.1
   ·rw [decide_eq_true h];left;simp [h]
   ·rw [decide_eq_false h];rcases ih with ih | ih
    ·left;simp [ih]
    ·right;simp [ih]
theorem Qz {es:List (Str×D)} {s:Str} {v:D} {x:Str}:x∈(ptS es s v).map (·.1)↔x∈es.map (·.1)∨x=s:=by
 induction es with
 | nil=>simp [ptS]
 | cons e es ih=>
   unfold ptS;by_cases h:s=e.1
   ·rw [decide_eq_true h];simp only [List.map_cons,List.mem_cons];rw [h];constructor
    ·rintro (h | h)
     ·exact .inl (.inl h)
     ·exact .inl (.inr h)
    ·rintro ((h | h) | h)
     ·exact .inl h
     ·exact .inr h
     ·exact .inl h
   ·rw [decide_eq_false h];simp only [List.map_cons,List.mem_cons,ih,or_assoc]
theorem QC (es:List (Str×D)) (s:Str) (v:D):(ptS es s v).length≤es.length+1:=by
 rcases Uy es s v with h | h
 ·have:=congrArg List.length h;simp at this;omega
 ·have:=congrArg List.length h;simp at this;omega
end Go.Proofs.YtdonenoiehdahaaGreat
namespace Go.Proofs.YtdonenoiehdahaaGreat
open Go Go.Abs Go.Own
attribute [local irreducible] WP
def bdD (e:Eg):D := .agg [.bool e.2.2,.str e.2.1,.list []]
def enR (e:Eg):D := .agg [.str e.1,.list [],.list [bdD e]]
theorem Z5 {l:List Eg} {i:Nat} (h:i<l.length):(l.map enR)[((i:Int)).toNat]?=some (.agg [.str l[i].1,.list [],.list [bdD l[i]]]):=ay h
def ptB (m:List (Str×D)) (s:Str):List (Str×D):=ptS m s (.bool true)
def vG (E:List Eg):List (Str×D):=E.foldl (fun m e=>ptB (ptB m e.1) e.2.1) []
theorem RY {E:List Eg} {i:Nat} (h:i<E.length):vG (E.take (i+1))=ptB (ptB (vG (E.take i)) E[i].1) E[i].2.1:=by
 unfold vG;rw [List.take_succ_eq_append_getElem h,List.foldl_append];rfl
def vS (m:List (Str×D)):List Str:=m.map (·.1)
theorem DN {E:List Eg} {x:Str}:x∈vS (vG E)↔∃ e∈E,x=e.1∨x=e.2.1:=by
 have key:∀ (E:List Eg) (m:List (Str×D)),x∈vS (E.foldl (fun m e=>ptB (ptB m e.1) e.2.1) m)↔x∈vS m∨∃ e∈E,x=e.1∨x=e.2.1:=fun E=>by
  induction E with
  | nil=>intro m;simp
  | cons e E ih=>
    intro m;rw [List.foldl_cons,ih];show x∈(ptS (ptS m e.1 _) e.2.1 _).map (·.1)∨_↔_;rw [Qz,Qz];constructor
    ·rintro (((h | h) | h) | ⟨e',he,h⟩)
     ·exact .inl h
     ·exact .inr ⟨e,by simp,.inl h⟩
     ·exact .inr ⟨e,by simp,.inr h⟩
     ·exact .inr ⟨e',by simp [he],h⟩
    ·rintro (h | ⟨e',he,h⟩)
     ·exact .inl (.inl (.inl h))
     ·rcases List.mem_cons.1 he with rfl | he
      ·rcases h with h | h
       ·exact .inl (.inl (.inr h))
       ·exact .inl (.inr h)
      ·exact .inr ⟨e',he,h⟩
 have:=key E []
 simpa [vG,vS] using this
theorem LU (E:List Eg):(vG E).length≤2*E.length:=by
 have key:∀ (E:List Eg) (m:List (Str×D)),(E.foldl (fun m e=>ptB (ptB m e.1) e.2.1) m).length≤m.length+2*E.length:=fun E=>by
  induction E with
  | nil=>intro m;simp
  | cons e E ih=>
    intro m;rw [List.foldl_cons];have h1:=ih (ptB (ptB m e.1) e.2.1);have h2:=QC m e.1 (.bool true);have h3:=QC (ptB m e.1) e.2.1 (.bool true);unfold ptB at *;simp only [List.length_cons] at *;omega
 simpa [vG] using key E []
def dist:Str:=[100,105,115,116,105,110,99,116]
def qR (E:List Eg):List Str:=oP (vS (vG E))
def bdM (m:List (Str×D)) (e:Eg):Nat→List (Str×D)
 | 0=>m
 | _+1=>ptB m e.2.1
theorem Tryz.relations (E:List Eg) (hd:∀ e∈E,e.1≠dist∧e.2.1≠dist) (hE:E.length≤10000) :
  Pure Tryz.prog 136 [.list (E.map enR)] [.list ((qR E).map D.str)]:=by
 refine Pure.of_wp hT (nt:=_) (c:=_) Tryz.func136 rfl rfl rfl rfl (by kernel_rfl) ?_;intro w0 ok0 β0;repeat (refine gw rfl ?_;conv=>whnf)
 refine WP.loop (α:=Nat) (fun i=>⟨[(0,.d (.list (E.map enR))),(3,.map 8),(9,.d (.list (E.map enR))),(10,.d (.int .i64 E.length)),(11,.d (.int .i64 i))],[((8,0),some (.map (mpS (vG (E.take i)))))],[8]⟩)
  (fun i=>i≤E.length) (fun i=>E.length-i) 0 [(8,some 8)] [] ?_ ?_ ?_
 ·rw [List.length_map];((conv=>whnf);repeat (first | exact ⟨⟩ | (refine ⟨by first | rfl | (simp;done) | (simp;omega),?_⟩;conv=>whnf)))
 ·exact Nat.zero_le _
 ·intro i hi;repeat (refine gw rfl ?_;conv=>whnf)
  (split<;>rename_i hb<;>(try rw [hb])<;>(conv=>whnf))
  ·have hlt:i<E.length:=(by simpa using hb);clear hb;(repeat (refine gw rfl ?_;conv=>whnf));refine ⟨by omega,_,Z5 hlt,rfl,?_⟩;(conv=>whnf);(repeat (refine gw rfl ?_;conv=>whnf));refine ⟨BL rfl rfl _,?_⟩;rw [BH];(conv=>whnf);(repeat (refine gw rfl ?_;conv=>whnf));refine WP.loop (α:=Nat) (fun k=>⟨[(0,.d (.list (E.map enR))),(3,.map 8),(9,.d (.list (E.map enR))),(10,.d (.int .i64 E.length)),(11,.d (.int .i64 i)),(20,.d (.list [bdD E[i]])),(21,.d (.int .i64 1)),(22,.d (.int .i64 k))],[((8,0),some (.map (mpS (bdM (ptB (vG (E.take i)) E[i].1) E[i] k))))],[8]⟩)
    (fun k=>k≤1) (fun k=>1-k) 0 [(8,some 8)] [] ?_ ?_ ?_
   ·((conv=>whnf);repeat (first | exact ⟨⟩ | (refine ⟨by first | rfl | (simp;done) | (simp;omega),?_⟩;conv=>whnf)))
   ·exact Nat.zero_le _
   ·intro k hk;(repeat (refine gw rfl ?_;conv=>whnf));(split<;>rename_i hb<;>(try rw [hb])<;>(conv=>whnf))
    ·have hk0:k=0:=by have:(k:Int)<1:=by simpa using hb
                      omega
     subst hk0;clear hb;(repeat (refine gw rfl ?_;conv=>whnf));refine ⟨by omega,_,rfl,rfl,?_⟩;(conv=>whnf);(repeat (refine gw rfl ?_;conv=>whnf));refine ⟨BL rfl rfl _,?_⟩;rw [BH];(conv=>whnf);(repeat (refine gw rfl ?_;conv=>whnf));refine ⟨by omega,?_⟩;(conv=>whnf);refine ⟨1,[(8,some 8)],[],?_,by omega,by omega⟩;((conv=>whnf);repeat (first | exact ⟨⟩ | (refine ⟨by first | rfl | (simp;done) | (simp;omega),?_⟩;conv=>whnf)))
    ·have hk1:k=1:=by have:¬ (k:Int)<1:=by simpa using hb
                      omega
     subst hk1;clear hb;(repeat (refine gw rfl ?_;conv=>whnf));refine ⟨by omega,?_⟩;(conv=>whnf);refine ⟨i+1,[(8,some 8)],[],?_,by omega,by omega⟩;rw [RY hlt];((conv=>whnf);repeat (first | exact ⟨⟩ | (refine ⟨by first | rfl | (simp;done) | (simp;omega),?_⟩;conv=>whnf)))
  ·have:i=E.length:=(by simp at hb;omega);subst this;clear hb;rw [List.take_length];(repeat (refine gw rfl ?_;conv=>whnf));refine ⟨BL rfl rfl _,?_⟩
   rw [show F7 (mpS (vG E)) (D.str { data:=#[100,105,115,116,105,110,99,116]:ByteArray }.data.toList)=mpS (vG E) from QZ dist (vG E) fun e he=>by
    obtain ⟨e',he',h⟩:=DN.1 (List.mem_map.2 ⟨e,he,rfl⟩:e.1∈vS (vG E));rcases h with h | h
    ·rw [h];exact (hd e' he').1
    ·rw [h];exact (hd e' he').2]
   (conv=>whnf);(repeat (refine gw rfl ?_;conv=>whnf));refine .inr ⟨_,_,_,_,_,_,Tryz.ascending (mpS (vG E)) (vS (vG E)) (by unfold mpS vS;rw [List.map_map,List.map_map];rfl) (by have:=LU E;unfold vS;rw [List.length_map];omega),[(0,8)],[],rfl,rfl,?_⟩;(conv=>whnf);refine ⟨rfl,?_⟩;(conv=>whnf);(repeat (refine gw rfl ?_;conv=>whnf));rfl
end Go.Proofs.YtdonenoiehdahaaGreat
