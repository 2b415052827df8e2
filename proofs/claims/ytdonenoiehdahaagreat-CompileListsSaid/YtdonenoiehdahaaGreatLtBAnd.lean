/- Walks: the reference's Lists. -/
import Derived.Test.YtdonenoiehdahaaGreatLtAAnd
import Derived.Test.YtdonenoiehdahaaGreatLsXAnd
set_option linter.all false
namespace Go.Own
end Go.Own
namespace Go.Proofs.YtdonenoiehdahaaGreat
open Go Go.Abs Go.Own
attribute [local irreducible] WP
def EG (atoms:List Tm) (hold:List Int) (i:Nat):List Int×Nat:=(atoms.take i).foldl (jh atoms hold) ([],0)
theorem TQ (atoms:List Tm) (hold:List Int):∀ i,(EG atoms hold i).2=(aT bW none (atoms.take i)).length:=fun i=>by
 have:∀ (l:List Tm) (q:List Int×Nat),(l.foldl (jh atoms hold) q).2=q.2+(aT bW none l).length:=fun l=>by
  induction l with
  | nil=>intro q;rfl
  | cons t l ih=>
    intro q
    rw [List.foldl_cons,ih]
    unfold jh aT
    cases h:fP bW none t with
    | none=>rw [List.filterMap_cons_none h]
    | some x=>rw [List.filterMap_cons_some h,List.length_cons];dsimp only;omega
 have:=this (atoms.take i) ([],0)
 unfold EG
 rw [this];simp
set_option maxHeartbeats 1000000 in
set_option maxRecDepth 10000 in
theorem Tryz.VI (atoms names:List Tm) (rules:List Gr) (hid:Bool) (hold:List Int) (hn:atoms.length≤64) (hok:∀ x∈atoms,okT x) (hokn:∀ x∈names,okT x) (hnl:names.length≤1000) (hhl:hold.length≤64)
  (hMo:Pure Tryz.prog 21 [gD atoms rules,.list []] [.list (hold.map enI),.int .i64 0]) :
  Pure Tryz.prog 18 [gD atoms rules,.list (names.map enT),.bool hid] [fQ [] names (aT bW none atoms) (names.zipIdx.flatMap (nM atoms)) (TR atoms hold) (List.replicate (aT bW none atoms).length 0) (List.replicate (names.zipIdx.flatMap (nM atoms)).length 0) ((names.zipIdx.flatMap (nN atoms)).map aK) ((names.zipIdx.flatMap (uG atoms)).map aK) 0 hid]:=by
 refine Pure.of_wp hT (nt:=_) (c:=_) Tryz.func18 rfl rfl rfl rfl (by kernel_rfl) ?_
 intro w0 ok0 β0
 repeat (refine gw rfl ?_;conv=>whnf)
 refine ⟨rfl,?_⟩
 conv=>whnf
 refine ⟨rfl,?_⟩
 conv=>whnf
 repeat (refine gw rfl ?_;conv=>whnf)
 refine .inl ⟨_,hMo,.inl rfl,?_⟩
 conv=>whnf
 repeat (refine gw rfl ?_;conv=>whnf)
 refine WP.loop (α:=Nat) (fun i=>⟨[(1,.d (.list (names.map enT))),(3,.d (.ref (gD atoms rules).cells 0)),(6,.ptr 6 0),(7,.ptr 7 0),(8,.d (.list (hold.map enI))),(10,.d (.int .i64 i))],[((7,0),some (.cell .aF)),((7,1),some (.cell (.d (.list (names.map enT))))),((7,9),some (.cell (.d (.int .i64 0)))),((7,10),some (.cell (.d (.bool hid)))),((7,2),some (.cell (.sl 301 2 0 (aT bW none (atoms.take i)).length))),((301,0),some (.arr 2 ((aT bW none (atoms.take i)).map enT))),((7,3),some (.cell (.sl 302 3 0 (([]:List In)).length))),((302,0),some (.arr 3 ((([]:List In)).map eu))),((7,4),some (.cell (.sl 303 1 0 ((EG atoms hold i).1).length))),((303,0),some (.arr 1 (((EG atoms hold i).1).map enI))),((7,5),some (.cell (.sl 304 1 0 (List.replicate (aT bW none (atoms.take i)).length 0).length))),((304,0),some (.arr 1 ((List.replicate (aT bW none (atoms.take i)).length 0).map enI))),((7,6),some (.cell (.sl 305 1 0 (([]:List Int)).length))),((305,0),some (.arr 1 ((([]:List Int)).map enI))),((7,7),some (.cell (.sl 306 5 0 (([]:List Ot)).length))),((306,0),some (.arr 5 ((([]:List Ot)).map aK))),((7,8),some (.cell (.sl 307 5 0 (([]:List Ot)).length))),((307,0),some (.arr 5 ((([]:List Ot)).map aK))),((6,0),some (.cell (.d (.list [])))),((6,1),some (.cell (.d (.list [])))),((6,2),some (.cell (.d (.list [])))),((6,3),some (.cell (.d (.list [])))),((6,4),some (.cell (.d (.list [])))),((6,5),some (.cell (.d (.list [])))),((6,6),some (.cell (.d (.list [])))),((6,7),some (.cell (.d (.list [])))),((6,8),some (.cell (.d (.list [])))),((6,9),some (.cell (.d (.int .i64 0)))),((6,10),some (.cell (.d (.bool false))))],[6,7,301,302,303,304,305,306,307]⟩)
  (fun i=>i≤atoms.length∧(EG atoms hold i).1.length≤64*i) (fun i=>atoms.length-i) 0 [(6,some 6),(7,some 7),(301,none),(302,none),(303,none),(304,none),(305,none),(306,none),(307,none)] [] ?_ ?_ ?_
 ·((conv=>whnf);repeat (first | exact ⟨⟩ | (refine ⟨by first | rfl | (simp;done) | (simp;omega),?_⟩;conv=>whnf)))
 ·exact ⟨Nat.zero_le _,Nat.zero_le _⟩
 ·rintro i ⟨hi,hil⟩
  have hbs:=fun (h:i<atoms.length)=>ou (name:=bW) (role:=none) h
  have hks:=fun (h:i<atoms.length)=>show EG atoms hold (i+1)=jh atoms hold (EG atoms hold i) atoms[i] from aY _ _ _ h
  have hk2:=TQ atoms hold i
  have hBl:(aT bW none (atoms.take i)).length≤64:=Nat.le_trans gy (by rw [List.length_take];omega)
  obtain ⟨J,hJ⟩:∃ J,J=(EG atoms hold i).1:=⟨_,rfl⟩
  have hJ2:EG atoms hold i=(J,(aT bW none (atoms.take i)).length):=by rw [hJ,← hk2]
  rw [hJ2] at hks hil ⊢
  generalize hBe:aT bW none (atoms.take i)=B at hbs hks hBl ⊢
  dsimp only at hil ⊢
  repeat (refine gw rfl ?_;conv=>whnf)
  rw [List.length_map]
  (split<;>rename_i hb<;>(try rw [hb])<;>(conv=>whnf))
  ·have hlt:i<atoms.length:=by simpa using hb
   clear hb
   specialize hbs hlt
   specialize hks hlt
   have okt:=hok _ (List.getElem_mem hlt)
   have hgt:=dA hlt
   generalize atoms[i]=t at hbs hks okt hgt
   repeat (refine gw rfl ?_;conv=>whnf)
   refine ⟨by omega,_,hgt,rfl,?_⟩
   conv=>whnf
   refine .inl ⟨_,Tryz.Xy t bW 1,.inl rfl,?_⟩
   conv=>whnf
   cases hq:(t.name==bW&&decide (t.args.length=1)) with
   | false=>
     have hsn:fP bW none t=none:=by
      cases h1:t.name==bW with
      | false=>exact yh h1
      | true=>
        rw [MG h1]
        rw [h1,Bool.true_and] at hq
        have:=of_decide_eq_false hq
        split
        ·rename_i x e;rw [e] at this;exact absurd rfl this
        ·rfl
     rw [hsn,Option.toList_none,List.append_nil] at hbs
     rw [show jh atoms hold (J,B.length) t=(J,B.length) by unfold jh;rw [hsn]] at hks
     conv=>whnf
     repeat (refine gw rfl ?_;conv=>whnf)
     refine ⟨by omega,?_⟩
     conv=>whnf
     refine ⟨i+1,[(6,some 6),(7,some 7),(301,some 301),(302,some 302),(303,some 303),(304,some 304),(305,some 305),(306,some 306),(307,some 307)],[],?_,⟨by omega,by rw [hks];dsimp only;omega⟩,by omega⟩
     rw [hks,hbs]
     ((conv=>whnf);repeat (first | exact ⟨⟩ | (refine ⟨by first | rfl | (simp;done) | (simp;omega),?_⟩;conv=>whnf)))
   | true=>
     simp only [Bool.and_eq_true,decide_eq_true_eq] at hq
     obtain ⟨f,hf⟩:∃ f,t.args=[f]:=List.length_eq_one_iff.1 hq.2
     have hsn:fP bW none t=some f:=by rw [MG hq.1,hf]
     have okf:okT f:=(aU.1 okt).2 f (by rw [hf];simp)
     rw [hsn,Option.toList_some] at hbs
     obtain ⟨bg,hbg⟩:∃ bg,bg=Ae (.mk kF [f]) 0 atoms:=⟨_,rfl⟩
     rw [show jh atoms hold (J,B.length) t=(J++(hold.filter fun x=>x==bg).map (fun _=>((B.length:Nat):Int)),B.length+1) by unfold jh;rw [hsn,hbg]] at hks
     have hfd:=Tryz.XJ atoms rules (.mk kF [f]) (by omega) hok (aU.2 ⟨by simp [Tm.args],fun x hx=>by simp [Tm.args] at hx;rw [hx];exact okf⟩)
     rw [← hbg] at hfd
     rw [hf] at hgt
     clear hbg
     conv=>whnf
     repeat (refine gw rfl ?_;conv=>whnf)
     refine ⟨by omega,_,hgt,rfl,?_⟩
     conv=>whnf
     refine ⟨by simp,tD f.name f.args,by rw [← bH];rfl,rfl,?_⟩
     conv=>whnf
     refine gw rfl ?_
     conv=>whnf
     refine W2 hT hM [53] ?_
     conv=>whnf
     iterate 3
      refine ⟨rfl,?_⟩
      conv=>whnf
     rw [show D.agg [D.str f.name,D.list (List.map enT f.args)]=enT f from (bH f).symm]
     refine .inl ⟨_,hfd,.inl rfl,?_⟩
     conv=>whnf
     repeat (refine gw rfl ?_;conv=>whnf)
     rw [show J.length=(J++((hold.take 0).filter fun x=>x==bg).map fun _=>((B.length:Nat):Int)).length by simp,show J.map enI=(J++((hold.take 0).filter fun x=>x==bg).map fun _=>((B.length:Nat):Int)).map enI by simp]
     refine WP.loop (α:=Nat) (fun k=>⟨[(1,.d (.list (names.map enT))),(3,.d (.ref (gD atoms rules).cells 0)),(6,.ptr 6 0),(7,.ptr 7 0),(8,.d (.list (hold.map enI))),(10,.d (.int .i64 i)),(11,.ptr 11 0),(12,.d (.int .i64 bg)),(13,.d (.int .i64 k))],[((7,0),some (.cell .aF)),((7,1),some (.cell (.d (.list (names.map enT))))),((7,9),some (.cell (.d (.int .i64 0)))),((7,10),some (.cell (.d (.bool hid)))),((7,2),some (.cell (.sl 301 2 0 (B).length))),((301,0),some (.arr 2 ((B).map enT))),((7,3),some (.cell (.sl 302 3 0 (([]:List In)).length))),((302,0),some (.arr 3 ((([]:List In)).map eu))),((7,4),some (.cell (.sl 303 1 0 (J++((hold.take k).filter fun x=>x==bg).map fun _=>((B.length:Nat):Int)).length))),((303,0),some (.arr 1 ((J++((hold.take k).filter fun x=>x==bg).map fun _=>((B.length:Nat):Int)).map enI))),((7,5),some (.cell (.sl 304 1 0 (List.replicate B.length 0).length))),((304,0),some (.arr 1 ((List.replicate B.length 0).map enI))),((7,6),some (.cell (.sl 305 1 0 (([]:List Int)).length))),((305,0),some (.arr 1 ((([]:List Int)).map enI))),((7,7),some (.cell (.sl 306 5 0 (([]:List Ot)).length))),((306,0),some (.arr 5 ((([]:List Ot)).map aK))),((7,8),some (.cell (.sl 307 5 0 (([]:List Ot)).length))),((307,0),some (.arr 5 ((([]:List Ot)).map aK))),((6,0),some (.cell (.d (.list [])))),((6,1),some (.cell (.d (.list [])))),((6,2),some (.cell (.d (.list [])))),((6,3),some (.cell (.d (.list [])))),((6,4),some (.cell (.d (.list [])))),((6,5),some (.cell (.d (.list [])))),((6,6),some (.cell (.d (.list [])))),((6,7),some (.cell (.d (.list [])))),((6,8),some (.cell (.d (.list [])))),((6,9),some (.cell (.d (.int .i64 0)))),((6,10),some (.cell (.d (.bool false)))),((11,0),some (.cell (.d (.str f.name)))),((11,1),some (.cell (.d (.list (f.args.map enT)))))],[6,7,301,302,303,304,305,306,307,11]⟩)
      (fun k=>k≤hold.length) (fun k=>hold.length-k) 0 [(6,some 6),(7,some 7),(301,some 301),(302,some 302),(303,some 303),(304,some 304),(305,some 305),(306,some 306),(307,some 307),(11,some 11)] [] ?_ ?_ ?_
     ·((conv=>whnf);repeat (first | exact ⟨⟩ | (refine ⟨by first | rfl | (simp;done) | (simp;omega),?_⟩;conv=>whnf)))
     ·exact Nat.zero_le _
     ·intro k hk
      have hus:=fun (h:k<hold.length)=>show (J++((hold.take (k+1)).filter fun x=>x==bg).map fun _=>((B.length:Nat):Int))=(J++((hold.take k).filter fun x=>x==bg).map fun _=>((B.length:Nat):Int))++(match hold[k]==bg with | true=>[((B.length:Nat):Int)] | false=>[]) from by
       rw [List.take_succ_eq_append_getElem h,List.filter_append,List.map_append,List.append_assoc]
       congr 1
       cases hh:hold[k]==bg with
       | true=>rw [List.filter_cons_of_pos (by exact hh)];rfl
       | false=>rw [List.filter_cons_of_neg (by rw [hh];simp)];rfl
      have hSl:(J++((hold.take k).filter fun x=>x==bg).map fun _=>((B.length:Nat):Int)).length≤64*i+64:=by
       rw [List.length_append,List.length_map]
       have:=List.length_filter_le (fun x=>x==bg) (hold.take k)
       rw [List.length_take] at this
       omega
      generalize hSe:(J++((hold.take k).filter fun x=>x==bg).map fun _=>((B.length:Nat):Int))=S at hus hSl ⊢
      repeat (refine gw rfl ?_;conv=>whnf)
      rw [List.length_map]
      (split<;>rename_i hb<;>(try rw [hb])<;>(conv=>whnf))
      ·have hlk:k<hold.length:=by simpa using hb
       clear hb
       specialize hus hlk
       have hgk:=QF hlk
       generalize hold[k]=x at hus hgk
       repeat (refine gw rfl ?_;conv=>whnf)
       refine ⟨by omega,_,hgk,rfl,?_⟩
       conv=>whnf
       repeat (refine gw rfl ?_;conv=>whnf)
       cases hx:x==bg with
       | false=>
         rw [hx,List.append_nil] at hus
         conv=>whnf
         repeat (refine gw rfl ?_;conv=>whnf)
         refine ⟨by omega,?_⟩
         conv=>whnf
         refine ⟨k+1,[(6,some 6),(7,some 7),(301,some 301),(302,some 302),(303,some 303),(304,some 304),(305,some 305),(306,some 306),(307,some 307),(11,some 11)],[],?_,by omega,by omega⟩
         rw [hus]
         ((conv=>whnf);repeat (first | exact ⟨⟩ | (refine ⟨by first | rfl | (simp;done) | (simp;omega),?_⟩;conv=>whnf)))
       | true=>
         rw [hx] at hus
         conv=>whnf
         repeat (refine gw rfl ?_;conv=>whnf)
         (refine ⟨rfl,?_⟩;(conv=>whnf);refine ⟨_,(congrArg (List.take _) List.drop_zero).trans (List.take_of_length_le (by first | (simp;done) | (simp;omega))),by first | (simp;done) | (simp;omega),?_⟩;(conv=>whnf);refine ⟨_,rfl,Nat.le_refl _,?_⟩;(conv=>whnf);refine ⟨by show (_+1)*8≤_;first | (simp;done) | (simp;omega),?_⟩;(conv=>whnf))
         repeat (refine gw rfl ?_;conv=>whnf)
         refine ⟨by omega,?_⟩
         conv=>whnf
         refine ⟨k+1,[(6,some 6),(7,some 7),(301,some 301),(302,some 302),(303,some 74),(304,some 304),(305,some 305),(306,some 306),(307,some 307),(11,some 11)],[],?_,by omega,by omega⟩
         rw [hus,List.map_append,List.length_append]
         ((conv=>whnf);repeat (first | exact ⟨⟩ | (refine ⟨by first | rfl | (simp;done) | (simp;omega),?_⟩;conv=>whnf)))
      ·have hke:k=hold.length:=by simp at hb;omega
       subst hke
       clear hb hus
       rw [List.take_length] at hSe
       rw [hSe] at hks
       repeat (refine gw rfl ?_;conv=>whnf)
       (refine ⟨rfl,?_⟩;(conv=>whnf);refine ⟨_,(congrArg (List.take _) List.drop_zero).trans (List.take_of_length_le (by first | (simp;done) | (simp;omega))),by first | (simp;done) | (simp;omega),?_⟩;(conv=>whnf);refine ⟨_,rfl,Nat.le_refl _,?_⟩;(conv=>whnf);refine ⟨by show (_+1)*40≤_;first | (simp;done) | (simp;omega),?_⟩;(conv=>whnf))
       repeat (refine gw rfl ?_;conv=>whnf)
       (refine ⟨rfl,?_⟩;(conv=>whnf);refine ⟨_,(congrArg (List.take _) List.drop_zero).trans (List.take_of_length_le (by first | (simp;done) | (simp;omega))),by first | (simp;done) | (simp;omega),?_⟩;(conv=>whnf);refine ⟨_,rfl,Nat.le_refl _,?_⟩;(conv=>whnf);refine ⟨by show (_+1)*8≤_;first | (simp;done) | (simp;omega),?_⟩;(conv=>whnf))
       repeat (refine gw rfl ?_;conv=>whnf)
       refine ⟨by omega,?_⟩
       conv=>whnf
       refine ⟨i+1,[(6,some 6),(7,some 7),(301,some 80),(302,some 302),(303,some 303),(304,some 85),(305,some 305),(306,some 306),(307,some 307)],[],?_,⟨by omega,by rw [hks];dsimp only;omega⟩,by omega⟩
       rw [hks,hbs,List.length_append,List.map_append,List.map_singleton,bH,show List.replicate (B.length+[f].length) (0:Int)=List.replicate B.length 0++[0] from List.replicate_succ',List.map_append]
       ((conv=>whnf);repeat (first | exact ⟨⟩ | (refine ⟨by first | rfl | (simp;done) | (simp;omega),?_⟩;conv=>whnf)))
  ·have hie:i=atoms.length:=by simp at hb;omega
   subst hie
   clear hb hbs hks
   have hBe2:=hBe
   rw [List.take_length] at hBe2
   have hJe:TR atoms hold=J:=by
    rw [hJ];unfold TR EG;rw [List.take_length]
   rw [hBe2,hJe]
   clear hJ2 hk2
   refine WP.weak (l':=⟨[(1,.d (.list (names.map enT))),(3,.d (.ref (gD atoms rules).cells 0)),(6,.ptr 6 0),(7,.ptr 7 0)],[((7,0),some (.cell .aF)),((7,1),some (.cell (.d (.list (names.map enT))))),((7,2),some (.cell (.d (.list (B.map enT))))),((7,4),some (.cell (.d (.list (J.map enI))))),((7,5),some (.cell (.d (.list ((List.replicate B.length (0:Int)).map enI))))),((7,9),some (.cell (.d (.int .i64 0)))),((7,10),some (.cell (.d (.bool hid)))),((7,3),some (.cell (.sl 302 3 0 (([]:List In)).length))),((302,0),some (.arr 3 ((([]:List In)).map eu))),((7,6),some (.cell (.sl 305 1 0 (List.replicate (([]:List In)).length 0).length))),((305,0),some (.arr 1 ((List.replicate (([]:List In)).length 0).map enI))),((7,7),some (.cell (.sl 306 5 0 (([]:List Ot)).length))),((306,0),some (.arr 5 ((([]:List Ot)).map aK))),((7,8),some (.cell (.sl 307 5 0 (([]:List Ot)).length))),((307,0),some (.arr 5 ((([]:List Ot)).map aK))),((6,0),some (.cell (.d (.list [])))),((6,1),some (.cell (.d (.list [])))),((6,2),some (.cell (.d (.list [])))),((6,3),some (.cell (.d (.list [])))),((6,4),some (.cell (.d (.list [])))),((6,5),some (.cell (.d (.list [])))),((6,6),some (.cell (.d (.list [])))),((6,7),some (.cell (.d (.list [])))),((6,8),some (.cell (.d (.list [])))),((6,9),some (.cell (.d (.int .i64 0)))),((6,10),some (.cell (.d (.bool false))))],[6,7,302,305,306,307]⟩) [(6,some 6),(7,some 7),(302,some 302),(305,some 305),(306,some 306),(307,some 307)] [301,303,304] ?_ ?_
   ·((conv=>whnf);repeat (first | exact ⟨⟩ | (refine ⟨by first | rfl | (simp;done) | (simp;omega),?_⟩;conv=>whnf)))
    refine ⟨B.map enT,by rw [List.drop_zero];exact List.take_of_length_le (by simp),by simp,rfl,?_⟩
    ((conv=>whnf);repeat (first | exact ⟨⟩ | (refine ⟨by first | rfl | (simp;done) | (simp;omega),?_⟩;conv=>whnf)))
    refine ⟨J.map enI,by rw [List.drop_zero];exact List.take_of_length_le (by simp),by simp,rfl,?_⟩
    ((conv=>whnf);repeat (first | exact ⟨⟩ | (refine ⟨by first | rfl | (simp;done) | (simp;omega),?_⟩;conv=>whnf)))
    refine ⟨(List.replicate B.length (0:Int)).map enI,by rw [List.drop_zero];exact List.take_of_length_le (by simp),by simp,rfl,?_⟩
    ((conv=>whnf);repeat (first | exact ⟨⟩ | (refine ⟨by first | rfl | (simp;done) | (simp;omega),?_⟩;conv=>whnf)))
   repeat (refine gw rfl ?_;conv=>whnf)
   refine WP.loop (α:=Nat) (fun i=>⟨[(1,.d (.list (names.map enT))),(3,.d (.ref (gD atoms rules).cells 0)),(6,.ptr 6 0),(7,.ptr 7 0),(14,.d (.int .i64 i))],[((7,0),some (.cell .aF)),((7,1),some (.cell (.d (.list (names.map enT))))),((7,2),some (.cell (.d (.list (B.map enT))))),((7,4),some (.cell (.d (.list (J.map enI))))),((7,5),some (.cell (.d (.list ((List.replicate B.length (0:Int)).map enI))))),((7,9),some (.cell (.d (.int .i64 0)))),((7,10),some (.cell (.d (.bool hid)))),((7,3),some (.cell (.sl 302 3 0 (((names.zipIdx.take i).flatMap (nM atoms))).length))),((302,0),some (.arr 3 ((((names.zipIdx.take i).flatMap (nM atoms))).map eu))),((7,6),some (.cell (.sl 305 1 0 (List.replicate (((names.zipIdx.take i).flatMap (nM atoms))).length 0).length))),((305,0),some (.arr 1 ((List.replicate (((names.zipIdx.take i).flatMap (nM atoms))).length 0).map enI))),((7,7),some (.cell (.sl 306 5 0 (((names.zipIdx.take i).flatMap (nN atoms))).length))),((306,0),some (.arr 5 ((((names.zipIdx.take i).flatMap (nN atoms))).map aK))),((7,8),some (.cell (.sl 307 5 0 (((names.zipIdx.take i).flatMap (uG atoms))).length))),((307,0),some (.arr 5 ((((names.zipIdx.take i).flatMap (uG atoms))).map aK))),((6,0),some (.cell (.d (.list [])))),((6,1),some (.cell (.d (.list [])))),((6,2),some (.cell (.d (.list [])))),((6,3),some (.cell (.d (.list [])))),((6,4),some (.cell (.d (.list [])))),((6,5),some (.cell (.d (.list [])))),((6,6),some (.cell (.d (.list [])))),((6,7),some (.cell (.d (.list [])))),((6,8),some (.cell (.d (.list [])))),((6,9),some (.cell (.d (.int .i64 0)))),((6,10),some (.cell (.d (.bool false))))],[6,7,302,305,306,307]⟩)
    (fun i=>i≤names.length∧((names.zipIdx.take i).flatMap (nM atoms)).length≤64*i∧((names.zipIdx.take i).flatMap (nN atoms)).length≤6464*i∧((names.zipIdx.take i).flatMap (uG atoms)).length≤64*i) (fun i=>names.length-i) 0 [(6,some 6),(7,some 7),(302,some 302),(305,some 305),(306,some 306),(307,some 307)] [] ?_ ?_ ?_
   ·((conv=>whnf);repeat (first | exact ⟨⟩ | (refine ⟨by first | rfl | (simp;done) | (simp;omega),?_⟩;conv=>whnf)))
   ·exact ⟨Nat.zero_le _,Nat.zero_le _,Nat.zero_le _,Nat.zero_le _⟩
   ·rintro i ⟨hi,hIl,hGl,hSl⟩
    have hzl:i<names.length→i<names.zipIdx.length:=fun h=>by rw [List.length_zipIdx];exact h
    have hIs:=fun (h:i<names.length)=>fF (nM atoms) names.zipIdx (hzl h)
    have hGs:=fun (h:i<names.length)=>fF (nN atoms) names.zipIdx (hzl h)
    have hSs:=fun (h:i<names.length)=>fF (uG atoms) names.zipIdx (hzl h)
    generalize hIe:((names.zipIdx.take i).flatMap (nM atoms))=I0 at hIs hIl ⊢
    generalize hGe:((names.zipIdx.take i).flatMap (nN atoms))=G0 at hGs hGl ⊢
    generalize hSe:((names.zipIdx.take i).flatMap (uG atoms))=S0 at hSs hSl ⊢
    repeat (refine gw rfl ?_;conv=>whnf)
    rw [List.length_map]
    (split<;>rename_i hb<;>(try rw [hb])<;>(conv=>whnf))
    ·have hlt:i<names.length:=by simpa using hb
     clear hb
     specialize hIs hlt
     specialize hGs hlt
     specialize hSs hlt
     rw [List.getElem_zipIdx,Nat.zero_add] at hIs hGs hSs
     have okr:=hokn _ (List.getElem_mem hlt)
     have hgr:=dA hlt
     generalize names[i]=r at hIs hGs hSs okr hgr
     repeat (refine gw rfl ?_;conv=>whnf)
     refine WP.loop (α:=Nat) (fun j=>⟨[(1,.d (.list (names.map enT))),(3,.d (.ref (gD atoms rules).cells 0)),(6,.ptr 6 0),(7,.ptr 7 0),(14,.d (.int .i64 i)),(15,.sl 308 1 0 ((aT eU (some r) (atoms.take j)).filterMap iJ).length),(16,.d (.int .i64 j))],[((7,0),some (.cell .aF)),((7,1),some (.cell (.d (.list (names.map enT))))),((7,2),some (.cell (.d (.list (B.map enT))))),((7,4),some (.cell (.d (.list (J.map enI))))),((7,5),some (.cell (.d (.list ((List.replicate B.length (0:Int)).map enI))))),((7,9),some (.cell (.d (.int .i64 0)))),((7,10),some (.cell (.d (.bool hid)))),((7,3),some (.cell (.sl 302 3 0 (I0++(aT bC (some r) (atoms.take j)).map fun m=>(i,m)).length))),((302,0),some (.arr 3 ((I0++(aT bC (some r) (atoms.take j)).map fun m=>(i,m)).map eu))),((7,6),some (.cell (.sl 305 1 0 (List.replicate (I0++(aT bC (some r) (atoms.take j)).map fun m=>(i,m)).length 0).length))),((305,0),some (.arr 1 ((List.replicate (I0++(aT bC (some r) (atoms.take j)).map fun m=>(i,m)).length 0).map enI))),((7,7),some (.cell (.sl 306 5 0 (G0).length))),((306,0),some (.arr 5 ((G0).map aK))),((7,8),some (.cell (.sl 307 5 0 (S0++(aT gB (some r) (atoms.take j)).map fun t=>(i,0,t,0)).length))),((307,0),some (.arr 5 ((S0++(aT gB (some r) (atoms.take j)).map fun t=>(i,0,t,0)).map aK))),((308,0),some (.arr 1 (((aT eU (some r) (atoms.take j)).filterMap iJ).map enI))),((6,0),some (.cell (.d (.list [])))),((6,1),some (.cell (.d (.list [])))),((6,2),some (.cell (.d (.list [])))),((6,3),some (.cell (.d (.list [])))),((6,4),some (.cell (.d (.list [])))),((6,5),some (.cell (.d (.list [])))),((6,6),some (.cell (.d (.list [])))),((6,7),some (.cell (.d (.list [])))),((6,8),some (.cell (.d (.list [])))),((6,9),some (.cell (.d (.int .i64 0)))),((6,10),some (.cell (.d (.bool false))))],[6,7,302,305,306,307,308]⟩)
      (fun j=>j≤atoms.length) (fun j=>atoms.length-j) 0 [(6,some 6),(7,some 7),(302,some 302),(305,some 305),(306,some 306),(307,some 307),(308,none)] [] ?_ ?_ ?_
     ·simp only [List.take_zero,show ∀ X r,aT X r []=[] from fun _ _=>rfl,List.map_nil,List.append_nil,List.filterMap_nil]
      ((conv=>whnf);repeat (first | exact ⟨⟩ | (refine ⟨by first | rfl | (simp;done) | (simp;omega),?_⟩;conv=>whnf)))
     ·exact Nat.zero_le _
     ·intro j hj
      have hDs:=fun (h:j<atoms.length)=>show (I0++(aT bC (some r) (atoms.take (j+1))).map fun m=>((i,m):In))=(I0++(aT bC (some r) (atoms.take j)).map fun m=>((i,m):In))++(fP bC (some r) atoms[j]).toList.map fun m=>((i,m):In) from by rw [ou h,List.map_append,List.append_assoc]
      have hNs:=fun (h:j<atoms.length)=>show (aT eU (some r) (atoms.take (j+1))).filterMap iJ=(aT eU (some r) (atoms.take j)).filterMap iJ++(fP eU (some r) atoms[j]).toList.filterMap iJ from by rw [ou h,List.filterMap_append]
      have hEs:=fun (h:j<atoms.length)=>show (S0++(aT gB (some r) (atoms.take (j+1))).map fun t=>((i,0,t,0):Ot))=(S0++(aT gB (some r) (atoms.take j)).map fun t=>((i,0,t,0):Ot))++(fP gB (some r) atoms[j]).toList.map fun t=>((i,0,t,0):Ot) from by rw [ou h,List.map_append,List.append_assoc]
      have l1:(aT bC (some r) (atoms.take j)).length≤64:=Nat.le_trans gy (by rw [List.length_take];omega)
      have l2:(aT eU (some r) (atoms.take j)).length≤64:=Nat.le_trans gy (by rw [List.length_take];omega)
      have l3:(aT gB (some r) (atoms.take j)).length≤64:=Nat.le_trans gy (by rw [List.length_take];omega)
      have l4:((aT eU (some r) (atoms.take j)).filterMap iJ).length≤64:=Nat.le_trans (List.length_filterMap_le _ _) l2
      have l5:(I0++(aT bC (some r) (atoms.take j)).map fun m=>((i,m):In)).length≤64*i+64:=by rw [List.length_append,List.length_map];omega
      have l6:(S0++(aT gB (some r) (atoms.take j)).map fun t=>((i,0,t,0):Ot)).length≤64*i+64:=by rw [List.length_append,List.length_map];omega
      generalize hXe:(I0++(aT bC (some r) (atoms.take j)).map fun m=>((i,m):In))=X at hDs l5 ⊢
      generalize hNe:(aT eU (some r) (atoms.take j)).filterMap iJ=Q at hNs l4 ⊢
      generalize hYe:(S0++(aT gB (some r) (atoms.take j)).map fun t=>((i,0,t,0):Ot))=Y at hEs l6 ⊢
      repeat (refine gw rfl ?_;conv=>whnf)
      rw [List.length_map]
      (split<;>rename_i hb<;>(try rw [hb])<;>(conv=>whnf))
      ·have hlj:j<atoms.length:=by simpa using hb
       clear hb
       specialize hDs hlj
       specialize hNs hlj
       specialize hEs hlj
       have okt:=hok _ (List.getElem_mem hlj)
       have hgt:=dA hlj
       generalize atoms[j]=t at hDs hNs hEs okt hgt
       repeat (refine gw rfl ?_;conv=>whnf)
       refine ⟨by omega,_,hgt,rfl,?_⟩
       conv=>whnf
       repeat (refine gw rfl ?_;conv=>whnf)
       rw [List.length_map]
       by_cases h2:t.args.length=2
       ·obtain ⟨a,b,hab⟩:∃ a b,t.args=[a,b]:=by
         match t.args,h2 with
         | [a,b],_=>exact ⟨a,b,rfl⟩
        have oka:okT a:=(aU.1 okt).2 a (by rw [hab];simp)
        have hX:∀ X,fP X (some r) t=match t.name==X with | true=>(match aO a r==0 with | true=>some b | false=>none) | false=>none:=fun X=>by
         cases h1:t.name==X with
         | false=>exact yh h1
         | true=>rw [MF h1,hab];rfl
        rw [hab,show (((([a,b]:List Tm).length:Nat):Int) != 2)=false from rfl]
        conv=>whnf
        refine ⟨by simp,_,show _=some (tD a.name a.args) by rw [← bH];rfl,rfl,?_⟩
        conv=>whnf
        refine ⟨by omega,_,hgr,rfl,?_⟩
        conv=>whnf
        refine .inl ⟨_,Tryz.oW a r oka okr,.inl rfl,?_⟩
        conv=>whnf
        cases h0:aO a r==0 with
        | false=>
          rw [show (aO a r != 0)=true by rw [bne,h0];rfl]
          have hno:∀ X,fP X (some r) t=none:=fun X=>by rw [hX,h0];cases t.name==X<;>rfl
          rw [hno,Option.toList_none,List.map_nil,List.append_nil] at hDs hEs
          rw [hno,Option.toList_none,List.filterMap_nil,List.append_nil] at hNs
          conv=>whnf
          repeat (refine gw rfl ?_;conv=>whnf)
          refine ⟨by omega,?_⟩
          conv=>whnf
          refine ⟨j+1,[(6,some 6),(7,some 7),(302,some 302),(305,some 305),(306,some 306),(307,some 307),(308,some 308)],[],?_,by omega,by omega⟩
          rw [hDs,hNs,hEs]
          ((conv=>whnf);repeat (first | exact ⟨⟩ | (refine ⟨by first | rfl | (simp;done) | (simp;omega),?_⟩;conv=>whnf)))
        | true=>
          rw [show (aO a r != 0)=false by rw [bne,h0];rfl]
          rw [h0] at hX
          dsimp only at hX
          conv=>whnf
          repeat (refine gw rfl ?_;conv=>whnf)
          rw [show ({ data:=#[100,111,101,115] }:ByteArray).data.toList=bC from rfl]
          cases hd:t.name==bC with
          | true=>
            have hnm:=eq_of_beq hd
            rw [hX,hd] at hDs
            rw [hX,show (t.name==eU)=false by rw [hnm];rfl] at hNs
            rw [hX,show (t.name==gB)=false by rw [hnm];rfl] at hEs
            dsimp only at hDs hNs hEs
            rw [Option.toList_none,List.filterMap_nil,List.append_nil] at hNs
            rw [Option.toList_none,List.map_nil,List.append_nil] at hEs
            rw [Option.toList_some,List.map_singleton] at hDs
            conv=>whnf
            repeat (refine gw rfl ?_;conv=>whnf)
            refine ⟨by simp,_,show _=some (tD b.name b.args) by rw [← bH];rfl,rfl,?_⟩
            conv=>whnf
            repeat (refine gw rfl ?_;conv=>whnf)
            refine ⟨rfl,?_⟩
            conv=>whnf
            (refine ⟨rfl,?_⟩;(conv=>whnf);refine ⟨_,(congrArg (List.take _) List.drop_zero).trans (List.take_of_length_le (by first | (simp;done) | (simp;omega))),by first | (simp;done) | (simp;omega),?_⟩;(conv=>whnf);refine ⟨_,rfl,Nat.le_refl _,?_⟩;(conv=>whnf);refine ⟨by show (_+1)*48≤_;first | (simp;done) | (simp;omega),?_⟩;(conv=>whnf))
            repeat (refine gw rfl ?_;conv=>whnf)
            (refine ⟨rfl,?_⟩;(conv=>whnf);refine ⟨_,(congrArg (List.take _) List.drop_zero).trans (List.take_of_length_le (by first | (simp;done) | (simp;omega))),by first | (simp;done) | (simp;omega),?_⟩;(conv=>whnf);refine ⟨_,rfl,Nat.le_refl _,?_⟩;(conv=>whnf);refine ⟨by show (_+1)*8≤_;first | (simp;done) | (simp;omega),?_⟩;(conv=>whnf))
            repeat (refine gw rfl ?_;conv=>whnf)
            refine ⟨by simp,_,show _=some (tD b.name b.args) by rw [← bH];rfl,rfl,?_⟩
            conv=>whnf
            refine .inl ⟨_,Tryz.wU b.name,.inl rfl,?_⟩
            conv=>whnf
            repeat (refine gw rfl ?_;conv=>whnf)
            rw [hnm]
            conv=>whnf
            repeat (refine gw rfl ?_;conv=>whnf)
            refine ⟨by omega,?_⟩
            conv=>whnf
            refine ⟨j+1,[(6,some 6),(7,some 7),(302,some 133),(305,some 138),(306,some 306),(307,some 307),(308,some 308)],[],?_,by omega,by omega⟩
            rw [hDs,hNs,hEs,List.length_append,show List.replicate (X.length+[((i,b):In)].length) (0:Int)=List.replicate X.length 0++[0] from List.replicate_succ',List.map_append,List.map_append]
            ((conv=>whnf);repeat (first | exact ⟨⟩ | (refine ⟨by first | rfl | (simp;done) | (simp;omega),?_⟩;conv=>whnf)))
          | false=>
            rw [hX,hd] at hDs
            rw [hX] at hNs hEs
            dsimp only at hDs
            rw [Option.toList_none,List.map_nil,List.append_nil] at hDs
            conv=>whnf
            repeat (refine gw rfl ?_;conv=>whnf)
            refine ⟨by simp,_,show _=some (tD b.name b.args) by rw [← bH];rfl,rfl,?_⟩
            conv=>whnf
            refine .inl ⟨_,Tryz.wU b.name,.inl rfl,?_⟩
            conv=>whnf
            repeat (refine gw rfl ?_;conv=>whnf)
            rw [show ({ data:=#[103,111,97,108] }:ByteArray).data.toList=eU from rfl]
            cases hg:t.name==eU with
            | true=>
              have hnm:=eq_of_beq hg
              rw [hg] at hNs
              rw [show (t.name==gB)=false by rw [hnm];rfl] at hEs
              dsimp only at hNs hEs
              rw [Option.toList_none,List.map_nil,List.append_nil] at hEs
              rw [Option.toList_some] at hNs
              conv=>whnf
              refine ⟨by simp,_,show _=some (tD b.name b.args) by rw [← bH];rfl,rfl,?_⟩
              conv=>whnf
              rw [List.length_map]
              by_cases hz:b.args.length=0
              ·rw [hz]
               conv=>whnf
               cases hk:bf b.name with
               | false=>
                 have hgN:iJ b=none:=by unfold iJ;simp only [hk,Bool.false_and]
                 rw [List.filterMap_cons_none hgN,List.filterMap_nil,List.append_nil] at hNs
                 conv=>whnf
                 repeat (refine gw rfl ?_;conv=>whnf)
                 rw [hnm]
                 conv=>whnf
                 repeat (refine gw rfl ?_;conv=>whnf)
                 refine ⟨by omega,?_⟩
                 conv=>whnf
                 refine ⟨j+1,[(6,some 6),(7,some 7),(302,some 302),(305,some 305),(306,some 306),(307,some 307),(308,some 308)],[],?_,by omega,by omega⟩
                 rw [hDs,hNs,hEs]
                 ((conv=>whnf);repeat (first | exact ⟨⟩ | (refine ⟨by first | rfl | (simp;done) | (simp;omega),?_⟩;conv=>whnf)))
               | true=>
                 conv=>whnf
                 by_cases hle:dF b.name≤100
                 ·have hgN:iJ b=some (dF b.name):=by unfold iJ;rw [hk,decide_eq_true hz,decide_eq_true hle];rfl
                  rw [List.filterMap_cons_some hgN,List.filterMap_nil] at hNs
                  rw [show decide (dF b.name≤100)=true from decide_eq_true hle]
                  conv=>whnf
                  repeat (refine gw rfl ?_;conv=>whnf)
                  (refine ⟨rfl,?_⟩;(conv=>whnf);refine ⟨_,(congrArg (List.take _) List.drop_zero).trans (List.take_of_length_le (by first | (simp;done) | (simp;omega))),by first | (simp;done) | (simp;omega),?_⟩;(conv=>whnf);refine ⟨_,rfl,Nat.le_refl _,?_⟩;(conv=>whnf);refine ⟨by show (_+1)*8≤_;first | (simp;done) | (simp;omega),?_⟩;(conv=>whnf))
                  repeat (refine gw rfl ?_;conv=>whnf)
                  rw [hnm]
                  conv=>whnf
                  repeat (refine gw rfl ?_;conv=>whnf)
                  refine ⟨by omega,?_⟩
                  conv=>whnf
                  refine ⟨j+1,[(6,some 6),(7,some 7),(302,some 302),(305,some 305),(306,some 306),(307,some 307),(308,some 171)],[],?_,by omega,by omega⟩
                  rw [hDs,hNs,hEs,List.length_append,List.map_append]
                  ((conv=>whnf);repeat (first | exact ⟨⟩ | (refine ⟨by first | rfl | (simp;done) | (simp;omega),?_⟩;conv=>whnf)))
                 ·rw [show decide (dF b.name≤100)=false from decide_eq_false hle]
                  have hgN:iJ b=none:=by unfold iJ;simp only [decide_eq_false hle,Bool.and_false]
                  rw [List.filterMap_cons_none hgN,List.filterMap_nil,List.append_nil] at hNs
                  conv=>whnf
                  repeat (refine gw rfl ?_;conv=>whnf)
                  rw [hnm]
                  conv=>whnf
                  repeat (refine gw rfl ?_;conv=>whnf)
                  refine ⟨by omega,?_⟩
                  conv=>whnf
                  refine ⟨j+1,[(6,some 6),(7,some 7),(302,some 302),(305,some 305),(306,some 306),(307,some 307),(308,some 308)],[],?_,by omega,by omega⟩
                  rw [hDs,hNs,hEs]
                  ((conv=>whnf);repeat (first | exact ⟨⟩ | (refine ⟨by first | rfl | (simp;done) | (simp;omega),?_⟩;conv=>whnf)))
              ·rw [show (((b.args.length:Nat):Int)==0)=false from beq_eq_false_iff_ne.2 (by omega)]
               have hgN:iJ b=none:=by unfold iJ;simp only [decide_eq_false hz,Bool.and_false,Bool.false_and]
               rw [List.filterMap_cons_none hgN,List.filterMap_nil,List.append_nil] at hNs
               conv=>whnf
               repeat (refine gw rfl ?_;conv=>whnf)
               rw [hnm]
               conv=>whnf
               repeat (refine gw rfl ?_;conv=>whnf)
               refine ⟨by omega,?_⟩
               conv=>whnf
               refine ⟨j+1,[(6,some 6),(7,some 7),(302,some 302),(305,some 305),(306,some 306),(307,some 307),(308,some 308)],[],?_,by omega,by omega⟩
               rw [hDs,hNs,hEs]
               ((conv=>whnf);repeat (first | exact ⟨⟩ | (refine ⟨by first | rfl | (simp;done) | (simp;omega),?_⟩;conv=>whnf)))
            | false=>
              rw [hg] at hNs
              dsimp only at hNs
              rw [Option.toList_none,List.filterMap_nil,List.append_nil] at hNs
              conv=>whnf
              repeat (refine gw rfl ?_;conv=>whnf)
              rw [show ({ data:=#[115,101,101,115] }:ByteArray).data.toList=gB from rfl]
              cases hs:t.name==gB with
              | true=>
                rw [hs] at hEs
                dsimp only at hEs
                rw [Option.toList_some,List.map_singleton] at hEs
                conv=>whnf
                repeat (refine gw rfl ?_;conv=>whnf)
                refine ⟨by simp,_,show _=some (tD b.name b.args) by rw [← bH];rfl,rfl,?_⟩
                conv=>whnf
                repeat (refine gw rfl ?_;conv=>whnf)
                refine ⟨rfl,?_⟩
                conv=>whnf
                (refine ⟨rfl,?_⟩;(conv=>whnf);refine ⟨_,(congrArg (List.take _) List.drop_zero).trans (List.take_of_length_le (by first | (simp;done) | (simp;omega))),by first | (simp;done) | (simp;omega),?_⟩;(conv=>whnf);refine ⟨_,rfl,Nat.le_refl _,?_⟩;(conv=>whnf);refine ⟨by show (_+1)*64≤_;first | (simp;done) | (simp;omega),?_⟩;(conv=>whnf))
                repeat (refine gw rfl ?_;conv=>whnf)
                refine ⟨by omega,?_⟩
                conv=>whnf
                refine ⟨j+1,[(6,some 6),(7,some 7),(302,some 302),(305,some 305),(306,some 306),(307,some 184),(308,some 308)],[],?_,by omega,by omega⟩
                rw [hDs,hNs,hEs,List.length_append,List.map_append]
                ((conv=>whnf);repeat (first | exact ⟨⟩ | (refine ⟨by first | rfl | (simp;done) | (simp;omega),?_⟩;conv=>whnf)))
              | false=>
                rw [hs] at hEs
                dsimp only at hEs
                rw [Option.toList_none,List.map_nil,List.append_nil] at hEs
                conv=>whnf
                repeat (refine gw rfl ?_;conv=>whnf)
                refine ⟨by omega,?_⟩
                conv=>whnf
                refine ⟨j+1,[(6,some 6),(7,some 7),(302,some 302),(305,some 305),(306,some 306),(307,some 307),(308,some 308)],[],?_,by omega,by omega⟩
                rw [hDs,hNs,hEs]
                ((conv=>whnf);repeat (first | exact ⟨⟩ | (refine ⟨by first | rfl | (simp;done) | (simp;omega),?_⟩;conv=>whnf)))
       ·rw [show (((t.args.length:Nat):Int) != 2)=true by simp;omega]
        have hno:∀ X,fP X (some r) t=none:=fun X=>by
         cases h1:t.name==X with
         | false=>exact yh h1
         | true=>
           rw [MF h1]
           split
           ·rename_i a b e;rw [e] at h2;exact absurd rfl h2
           ·rfl
        rw [hno,Option.toList_none,List.map_nil,List.append_nil] at hDs hEs
        rw [hno,Option.toList_none,List.filterMap_nil,List.append_nil] at hNs
        conv=>whnf
        repeat (refine gw rfl ?_;conv=>whnf)
        refine ⟨by omega,?_⟩
        conv=>whnf
        refine ⟨j+1,[(6,some 6),(7,some 7),(302,some 302),(305,some 305),(306,some 306),(307,some 307),(308,some 308)],[],?_,by omega,by omega⟩
        rw [hDs,hNs,hEs]
        ((conv=>whnf);repeat (first | exact ⟨⟩ | (refine ⟨by first | rfl | (simp;done) | (simp;omega),?_⟩;conv=>whnf)))
      ·have hje:j=atoms.length:=by simp at hb;omega
       subst hje
       clear hb hDs hNs hEs
       rw [List.take_length] at hXe hNe hYe
       have hIs':List.flatMap (nM atoms) (names.zipIdx.take (i+1))=X:=by rw [hIs,← hXe];rfl
       have hSs':List.flatMap (uG atoms) (names.zipIdx.take (i+1))=Y:=by rw [hSs,← hYe];rfl
       have hGs':List.flatMap (nN atoms) (names.zipIdx.take (i+1))=G0++(List.range 101).flatMap (eG i Q):=by rw [hGs,← hNe];rfl
       clear hIs hSs hGs
       repeat (refine gw rfl ?_;conv=>whnf)
       refine WP.loop (α:=Nat) (fun n=>⟨[(1,.d (.list (names.map enT))),(3,.d (.ref (gD atoms rules).cells 0)),(6,.ptr 6 0),(7,.ptr 7 0),(14,.d (.int .i64 i)),(15,.sl 308 1 0 Q.length),(20,.d (.int .i64 n))],[((7,0),some (.cell .aF)),((7,1),some (.cell (.d (.list (names.map enT))))),((7,2),some (.cell (.d (.list (B.map enT))))),((7,4),some (.cell (.d (.list (J.map enI))))),((7,5),some (.cell (.d (.list ((List.replicate B.length (0:Int)).map enI))))),((7,9),some (.cell (.d (.int .i64 0)))),((7,10),some (.cell (.d (.bool hid)))),((7,3),some (.cell (.sl 302 3 0 (X).length))),((302,0),some (.arr 3 ((X).map eu))),((7,6),some (.cell (.sl 305 1 0 (List.replicate (X).length 0).length))),((305,0),some (.arr 1 ((List.replicate (X).length 0).map enI))),((7,7),some (.cell (.sl 306 5 0 (G0++(List.range n).flatMap (eG i Q)).length))),((306,0),some (.arr 5 ((G0++(List.range n).flatMap (eG i Q)).map aK))),((7,8),some (.cell (.sl 307 5 0 (Y).length))),((307,0),some (.arr 5 ((Y).map aK))),((308,0),some (.arr 1 ((Q).map enI))),((6,0),some (.cell (.d (.list [])))),((6,1),some (.cell (.d (.list [])))),((6,2),some (.cell (.d (.list [])))),((6,3),some (.cell (.d (.list [])))),((6,4),some (.cell (.d (.list [])))),((6,5),some (.cell (.d (.list [])))),((6,6),some (.cell (.d (.list [])))),((6,7),some (.cell (.d (.list [])))),((6,8),some (.cell (.d (.list [])))),((6,9),some (.cell (.d (.int .i64 0)))),((6,10),some (.cell (.d (.bool false))))],[6,7,302,305,306,307,308]⟩)
        (fun n=>n≤101∧((List.range n).flatMap (eG i Q)).length≤64*n) (fun n=>101-n) 0 [(6,some 6),(7,some 7),(302,some 302),(305,some 305),(306,some 306),(307,some 307),(308,some 308)] [] ?_ ?_ ?_
       ·rw [show (List.range 0).flatMap (eG i Q)=[] from rfl,List.append_nil]
        ((conv=>whnf);repeat (first | exact ⟨⟩ | (refine ⟨by first | rfl | (simp;done) | (simp;omega),?_⟩;conv=>whnf)))
       ·exact ⟨Nat.zero_le _,Nat.zero_le _⟩
       ·rintro n ⟨hn1,hnl'⟩
        have hns:(List.range (n+1)).flatMap (eG i Q)=(List.range n).flatMap (eG i Q)++eG i Q n:=by rw [List.range_succ,List.flatMap_append];simp
        have hgl:(eG i Q n).length≤64:=by unfold eG;rw [List.length_map];exact Nat.le_trans (List.length_filter_le _ _) l4
        have hgn:eG i Q n=(Q.filter fun x=>x==((n:Nat):Int)).map fun _=>((i,((n:Nat):Int),.mk [] [],0):Ot):=rfl
        generalize hRe:(List.range n).flatMap (eG i Q)=R at hns hnl' ⊢
        generalize hFe:(List.range (n+1)).flatMap (eG i Q)=F at hns
        repeat (refine gw rfl ?_;conv=>whnf)
        (split<;>rename_i hb<;>(try rw [hb])<;>(conv=>whnf))
        ·have hn2:n≤100:=by simp at hb;omega
         clear hb
         repeat (refine gw rfl ?_;conv=>whnf)
         refine WP.loop (α:=Nat) (fun m=>⟨[(1,.d (.list (names.map enT))),(3,.d (.ref (gD atoms rules).cells 0)),(6,.ptr 6 0),(7,.ptr 7 0),(14,.d (.int .i64 i)),(15,.sl 308 1 0 Q.length),(20,.d (.int .i64 n)),(21,.d (.int .i64 m))],[((7,0),some (.cell .aF)),((7,1),some (.cell (.d (.list (names.map enT))))),((7,2),some (.cell (.d (.list (B.map enT))))),((7,4),some (.cell (.d (.list (J.map enI))))),((7,5),some (.cell (.d (.list ((List.replicate B.length (0:Int)).map enI))))),((7,9),some (.cell (.d (.int .i64 0)))),((7,10),some (.cell (.d (.bool hid)))),((7,3),some (.cell (.sl 302 3 0 (X).length))),((302,0),some (.arr 3 ((X).map eu))),((7,6),some (.cell (.sl 305 1 0 (List.replicate (X).length 0).length))),((305,0),some (.arr 1 ((List.replicate (X).length 0).map enI))),((7,7),some (.cell (.sl 306 5 0 ((G0++R)++((Q.take m).filter fun x=>x==((n:Nat):Int)).map fun _=>((i,((n:Nat):Int),.mk [] [],0):Ot)).length))),((306,0),some (.arr 5 (((G0++R)++((Q.take m).filter fun x=>x==((n:Nat):Int)).map fun _=>((i,((n:Nat):Int),.mk [] [],0):Ot)).map aK))),((7,8),some (.cell (.sl 307 5 0 (Y).length))),((307,0),some (.arr 5 ((Y).map aK))),((308,0),some (.arr 1 ((Q).map enI))),((6,0),some (.cell (.d (.list [])))),((6,1),some (.cell (.d (.list [])))),((6,2),some (.cell (.d (.list [])))),((6,3),some (.cell (.d (.list [])))),((6,4),some (.cell (.d (.list [])))),((6,5),some (.cell (.d (.list [])))),((6,6),some (.cell (.d (.list [])))),((6,7),some (.cell (.d (.list [])))),((6,8),some (.cell (.d (.list [])))),((6,9),some (.cell (.d (.int .i64 0)))),((6,10),some (.cell (.d (.bool false))))],[6,7,302,305,306,307,308]⟩)
          (fun m=>m≤Q.length) (fun m=>Q.length-m) 0 [(6,some 6),(7,some 7),(302,some 302),(305,some 305),(306,some 306),(307,some 307),(308,some 308)] [] ?_ ?_ ?_
         ·rw [List.take_zero,List.filter_nil,List.map_nil,List.append_nil]
          ((conv=>whnf);repeat (first | exact ⟨⟩ | (refine ⟨by first | rfl | (simp;done) | (simp;omega),?_⟩;conv=>whnf)))
         ·exact Nat.zero_le _
         ·intro m hm
          have hus:=fun (h:m<Q.length)=>show ((G0++R)++((Q.take (m+1)).filter fun x=>x==((n:Nat):Int)).map fun _=>((i,((n:Nat):Int),.mk [] [],0):Ot))=((G0++R)++((Q.take m).filter fun x=>x==((n:Nat):Int)).map fun _=>((i,((n:Nat):Int),.mk [] [],0):Ot))++(match Q[m]==((n:Nat):Int) with | true=>[((i,((n:Nat):Int),.mk [] [],0):Ot)] | false=>[]) from by
           rw [List.take_succ_eq_append_getElem h,List.filter_append,List.map_append,← List.append_assoc]
           congr 1
           cases hh:Q[m]==((n:Nat):Int) with
           | true=>rw [List.filter_cons_of_pos (by exact hh)];rfl
           | false=>rw [List.filter_cons_of_neg (by rw [hh];simp)];rfl
          have hZl:((G0++R)++((Q.take m).filter fun x=>x==((n:Nat):Int)).map fun _=>((i,((n:Nat):Int),.mk [] [],0):Ot)).length≤6464*i+64*n+64:=by
           rw [List.length_append,List.length_append,List.length_map]
           have:=List.length_filter_le (fun x=>x==((n:Nat):Int)) (Q.take m)
           rw [List.length_take] at this
           omega
          generalize hZe:((G0++R)++((Q.take m).filter fun x=>x==((n:Nat):Int)).map fun _=>((i,((n:Nat):Int),.mk [] [],0):Ot))=Z at hus hZl ⊢
          repeat (refine gw rfl ?_;conv=>whnf)
          (split<;>rename_i hb<;>(try rw [hb])<;>(conv=>whnf))
          ·have hlm:m<Q.length:=by simpa using hb
           clear hb
           specialize hus hlm
           have hgm:(Q.map enI)[0+((m:Nat):Int).toNat]?=some (.int .i64 Q[m]):=by rw [Nat.zero_add];exact QF hlm
           generalize Q[m]=x at hus hgm
           repeat (refine gw rfl ?_;conv=>whnf)
           refine ⟨⟨by omega,by omega⟩,?_⟩
           conv=>whnf
           refine ⟨_,hgm,?_⟩
           conv=>whnf
           repeat (refine gw rfl ?_;conv=>whnf)
           cases hx:x==((n:Nat):Int) with
           | false=>
             rw [hx] at hus
             dsimp only at hus
             rw [List.append_nil] at hus
             conv=>whnf
             repeat (refine gw rfl ?_;conv=>whnf)
             refine ⟨by omega,?_⟩
             conv=>whnf
             refine ⟨m+1,[(6,some 6),(7,some 7),(302,some 302),(305,some 305),(306,some 306),(307,some 307),(308,some 308)],[],?_,by omega,by omega⟩
             rw [hus]
             ((conv=>whnf);repeat (first | exact ⟨⟩ | (refine ⟨by first | rfl | (simp;done) | (simp;omega),?_⟩;conv=>whnf)))
           | true=>
             rw [hx] at hus
             dsimp only at hus
             conv=>whnf
             repeat (refine gw rfl ?_;conv=>whnf)
             iterate 2
              refine ⟨rfl,?_⟩
              conv=>whnf
             (refine ⟨rfl,?_⟩;(conv=>whnf);refine ⟨_,(congrArg (List.take _) List.drop_zero).trans (List.take_of_length_le (by first | (simp;done) | (simp;omega))),by first | (simp;done) | (simp;omega),?_⟩;(conv=>whnf);refine ⟨_,rfl,Nat.le_refl _,?_⟩;(conv=>whnf);refine ⟨by show (_+1)*64≤_;first | (simp;done) | (simp;omega),?_⟩;(conv=>whnf))
             repeat (refine gw rfl ?_;conv=>whnf)
             refine ⟨by omega,?_⟩
             conv=>whnf
             refine ⟨m+1,[(6,some 6),(7,some 7),(302,some 302),(305,some 305),(306,some 208),(307,some 307),(308,some 308)],[],?_,by omega,by omega⟩
             rw [hus,List.length_append,List.map_append]
             ((conv=>whnf);repeat (first | exact ⟨⟩ | (refine ⟨by first | rfl | (simp;done) | (simp;omega),?_⟩;conv=>whnf)))
          ·have hme:m=Q.length:=by simp at hb;omega
           subst hme
           clear hb hus
           rw [List.take_length,← hgn,List.append_assoc,← hns] at hZe
           repeat (refine gw rfl ?_;conv=>whnf)
           refine ⟨by omega,?_⟩
           conv=>whnf
           refine ⟨n+1,[(6,some 6),(7,some 7),(302,some 302),(305,some 305),(306,some 306),(307,some 307),(308,some 308)],[],?_,⟨by omega,by rw [hFe,hns,List.length_append];omega⟩,by omega⟩
           rw [hFe,hZe]
           ((conv=>whnf);repeat (first | exact ⟨⟩ | (refine ⟨by first | rfl | (simp;done) | (simp;omega),?_⟩;conv=>whnf)))
        ·have hne:n=101:=by simp at hb;omega
         subst hne
         clear hb hns
         rw [hRe] at hGs'
         repeat (refine gw rfl ?_;conv=>whnf)
         refine ⟨by omega,?_⟩
         conv=>whnf
         refine ⟨i+1,[(6,some 6),(7,some 7),(302,some 302),(305,some 305),(306,some 306),(307,some 307)],[],?_,⟨by omega,by rw [hIs'];omega,by rw [hGs',List.length_append];omega,by rw [hSs'];omega⟩,by omega⟩
         rw [hIs',hGs',hSs']
         ((conv=>whnf);repeat (first | exact ⟨⟩ | (refine ⟨by first | rfl | (simp;done) | (simp;omega),?_⟩;conv=>whnf)))
    ·have hie:i=names.length:=by simp at hb;omega
     subst hie
     clear hb hIs hGs hSs
     rw [List.take_of_length_le (by rw [List.length_zipIdx];exact Nat.le_refl _)] at hIe hGe hSe
     rw [hIe,hGe,hSe]
     repeat (refine gw rfl ?_;conv=>whnf)
     refine ⟨I0.map eu,by rw [List.drop_zero];exact List.take_of_length_le (by simp),by simp,?_⟩
     conv=>whnf
     refine ⟨(List.replicate I0.length (0:Int)).map enI,by rw [List.drop_zero];exact List.take_of_length_le (by simp),by simp,?_⟩
     conv=>whnf
     refine ⟨G0.map aK,by rw [List.drop_zero];exact List.take_of_length_le (by simp),by simp,?_⟩
     conv=>whnf
     refine ⟨S0.map aK,by rw [List.drop_zero];exact List.take_of_length_le (by simp),by simp,?_⟩
     conv=>whnf
     rfl
end Go.Proofs.YtdonenoiehdahaaGreat
namespace Go.Proofs.YtdonenoiehdahaaGreat
open Go Go.Abs Go.Own
theorem Ai {atoms:List Tm} {lv:Str→Nat} {n:Int} (h:n.toNat<atoms.length):rkI (dS atoms lv) n=((lv (nameAt atoms n):Nat):Int):=by
 have hm:=jq h
 unfold rkI dS
 unfold nameAt at hm ⊢
 rw [List.getElem?_eq_getElem h] at hm ⊢
 rw [List.getD_eq_getElem?_getD,List.getElem?_map,List.getElem?_eq_getElem h]
 exact BO hm
theorem Jo {atoms:List Tm} {rules:List Gr} {lv:Str→Nat} (hlv:dP (nmS atoms) (dX atoms rules [])=some lv):iY (dX atoms rules []) lv:=(iF hlv).1
theorem Qh {atoms:List Tm} {rules:List Gr} {lv:Str→Nat} (h:iY (dX atoms rules []) lv) {r:Gr} (hr:r∈rules) {x:Int} (hx:x∈r.2.1):lv (nameAt atoms x)≤lv (nameAt atoms r.1):=by
 obtain ⟨j,hj,rfl⟩:=List.mem_iff_getElem.1 hx
 have:=h _ (IV.2 (.inr ⟨r,hr,j,by unfold szR;omega,(Lj hj).symm⟩))
 exact this
theorem QX {str rk:List Int} {s round:Int} {r:Gr} (h:rkI str r.1=s) (hp:∀ n∈r.2.1,rkI str n≤s):rW str rk round r=xH str rk s round r:=by
 unfold rW xH
 congr 1
 ·rw [Bool.eq_iff_iff,List.all_eq_true,List.all_eq_true]
  refine forall_congr' fun n=>forall_congr' fun hn=>?_
  have:=hp n hn
  unfold posQ holdsB
  rw [h]
  simp
  omega
 ·rw [Bool.eq_iff_iff,List.all_eq_true,List.all_eq_true]
  refine forall_congr' fun n=>forall_congr' fun hn=>?_
  unfold negQ
  simp
theorem FI {str:List Int} {s:Nat} {round:Int}:∀ {rules:List Gr} {q:List Int×Bool},(∀ r∈rules,rkI str r.1=((s:Nat):Int)→∀ n∈r.2.1,rkI str n≤((s:Nat):Int))→rules.foldl (fV str (s:Nat) round) q=(rules.filter (inS str s)).foldl (iH str (s:Nat) round) q
 | [],q,_=>rfl
 | r::l,q,h=>by
   rw [List.foldl_cons]
   have ih:=fun q=>FI (round:=round) (rules:=l) (q:=q) fun r hr=>h r (by simp [hr])
   by_cases e:rkI str r.1=((s:Nat):Int)
   ·rw [List.filter_cons_of_pos (by unfold inS;exact decide_eq_true e),List.foldl_cons,ih]
    congr 1
    unfold fV iH
    rw [e,beq_self_eq_true,Bool.true_and,QX e (h r (by simp) e)]
    cases (decide (rkI q.1 r.1<0)&&xH str q.1 (s:Nat) round r)<;>rfl
   ·rw [List.filter_cons_of_neg (by unfold inS;simpa using e),ih]
    congr 1
    unfold fV
    rw [show (rkI str r.1==((s:Nat):Int))=false from beq_eq_false_iff_ne.2 e];rfl
theorem zA {str:List Int} {s:Nat} {rules:List Gr} (h:∀ r∈rules,rkI str r.1=((s:Nat):Int)→∀ n∈r.2.1,rkI str n≤((s:Nat):Int)):∀ (f:Nat) (round:Int) (rk:List Int),mF str (s:Nat) rules f round rk=iC str (s:Nat) (rules.filter (inS str s)) f round rk
 | 0,_,_=>rfl
 | f+1,round,rk=>by
   unfold mF iC
   rw [show zG str (s:Nat) rules round rk=uJ str (s:Nat) (rules.filter (inS str s)) round rk from FI h]
   cases (uJ str (s:Nat) (rules.filter (inS str s)) round rk).2
   ·rfl
   ·exact zA h f _ _
def HY (n:Nat) (str:List Int) (rules:List Gr) (facts:List Int) (k:Nat):List Int:=(List.range k).foldl (fun rk s=>iC str (s:Nat) (rules.filter (inS str s)) (n+1) 1 rk) (Vm n facts)
theorem Nc {n:Nat} {str:List Int} {rules:List Gr} {facts:List Int} (h:∀ r∈rules,∀ n∈r.2.1,rkI str n≤rkI str r.1) (k:Nat):jd n str rules facts k=HY n str rules facts k:=by
 unfold jd HY
 congr 1
 funext rk s
 exact zA (fun r hr e x hx=>e ▸ h r hr x hx) _ _ _
theorem RG {str:List Int} (h0:str≠[]) (hs:∀ s∈str,0≤s):vF str=jm str:=by
 obtain ⟨h1,h2,h3⟩:=o8 str (-1)
 obtain ⟨h4,h5,h6⟩:=mP str 0
 obtain ⟨x,hx⟩:=List.exists_mem_of_ne_nil _ h0
 have:=hs x hx
 have:=h1 x hx
 have e1:vF str≤jm str:=h3 _ (Int.le_trans (by decide) h5) h4
 have e2:jm str≤vF str:=h6 _ (by unfold vF;omega) h1
 omega
theorem BG (n:Nat) (str:List Int) (rules:List Gr) (facts:List Int) (k:Nat):(HY n str rules facts k).length=n:=by
 unfold HY
 have:∀ (l:List Nat) (rk:List Int),(l.foldl (fun rk s=>iC str (s:Nat) (rules.filter (inS str s)) (n+1) 1 rk) rk).length=rk.length:=fun l=>by
  induction l with
  | nil=>intro rk;rfl
  | cons x l ih=>intro rk;rw [List.foldl_cons,ih,qP]
 rw [this,JG]
theorem Nh {atoms:List Tm} {rules:List Gr} {lv:Str→Nat} (hin:eH atoms.length rules) (hlv:dP (nmS atoms) (dX atoms rules [])=some lv) :
  jd atoms.length (dS atoms lv) rules [] (vF (dS atoms lv)+1).toNat=jf atoms.length (dS atoms lv) rules:=by
 have hst:=Jo hlv
 rw [Nc (fun r hr x hx=>by
  have h1:=hin.head r hr
  have h2:=(hin.body r hr).1 x hx
  rw [Ai (by omega),Ai (by omega)]
  have:=Qh hst hr hx
  omega)]
 by_cases h0:atoms=[]
 ·subst h0
  have h1:=BG 0 (dS [] lv) rules [] (vF (dS [] lv)+1).toNat
  have h2:(jf 0 (dS [] lv) rules).length=0:=BG 0 (dS [] lv) rules [] ((jm (dS [] lv)).toNat+1)
  rw [show ([]:List Tm).length=0 from rfl,List.length_eq_zero_iff.1 h1,List.length_eq_zero_iff.1 h2]
 ·have hs:∀ s∈dS atoms lv,0≤s:=fun s hs=>by
   obtain ⟨i,hi,rfl⟩:=List.mem_iff_getElem.1 hs
   have:i<atoms.length:=by unfold dS at hi;simpa using hi
   have h1:rkI (dS atoms lv) (i:Nat)=(dS atoms lv)[i]:=by rw [sV (by simpa using hi)];rfl
   rw [← h1,Ai (by simpa using this)];omega
  have hne:dS atoms lv≠[]:=fun h=>h0 (by
   have:=congrArg List.length h
   unfold dS at this
   simpa using this)
  rw [RG hne hs]
  have:=(mP (dS atoms lv) 0).2.1
  rw [show (jm (dS atoms lv)+1).toNat=(jm (dS atoms lv)).toNat+1 by unfold jm;omega]
  rfl
end Go.Proofs.YtdonenoiehdahaaGreat
namespace Go.Proofs.YtdonenoiehdahaaGreat
open Go Go.Abs Go.Own
attribute [local irreducible] WP
theorem QW {atoms:List Tm} {rules:List Gr} {names:List Tm} {e:Int} (h:(jy atoms rules names e).2=0):aP atoms rules=true∧bG names=true∧rules.any (cZ atoms)=false∧e=0 ∧
  iI atoms.length rules (aV (cO atoms.length (aA atoms.length rules)) atoms.length)≤16384∧jy atoms rules names e=(((iI atoms.length rules (aV (cO atoms.length (aA atoms.length rules)) atoms.length):Nat):Int),0):=by
 unfold jy at h ⊢
 cases h1:aP atoms rules&&bG names with
 | false=>rw [h1] at h;cases h
 | true=>
   rw [h1] at h
   simp only [Bool.and_eq_true] at h1
   dsimp only at h ⊢
   cases h2:rules.any (cZ atoms) with
   | true=>rw [h2] at h;cases h
   | false=>
     rw [h2] at h
     dsimp only at h ⊢
     by_cases h3:e=0
     ·rw [decide_eq_true h3] at h ⊢
      dsimp only at h ⊢
      by_cases h4:16384<iI atoms.length rules (aV (cO atoms.length (aA atoms.length rules)) atoms.length)
      ·rw [decide_eq_true h4] at h;cases h
      ·rw [decide_eq_false h4]
       exact ⟨h1.1,h1.2,rfl,h3,by omega,rfl⟩
     ·rw [decide_eq_false h3] at h;exact absurd h h3
theorem Xo {atoms:List Tm} {rules:List Gr} {lv:Str→Nat} (hin:eH atoms.length rules) (hn:atoms.length≤64) (hlv:dP (nmS atoms) (dX atoms rules [])=some lv):∀ x∈nmS atoms,lv x<64:=fun x hx=>by
 have h1:=Jo hlv
 obtain ⟨f,h2,h3⟩:=Fb (E:=dX atoms rules []) (names:=nmS atoms) (Oa hin) (lI.2 ⟨lv,h1⟩)
 have h4:=(iF hlv).2 f h2 (fun _=>Nat.zero_le _) x
 have h5:=h3 x hx
 have h6:=Nr atoms
 omega
theorem Jq {atoms:List Tm} {rules:List Gr} {lv:Str→Nat} (hin:eH atoms.length rules) (hn:atoms.length≤64) (hlv:dP (nmS atoms) (dX atoms rules [])=some lv):∀ s∈dS atoms lv,0≤s∧s≤1000:=fun s hs=>by
 obtain ⟨i,hi,rfl⟩:=List.mem_iff_getElem.1 hs
 have hia:i<atoms.length:=by unfold dS at hi;simpa using hi
 have h1:rkI (dS atoms lv) ((i:Nat):Int)=(dS atoms lv)[i]:=by rw [sV (by simpa using hi)];rfl
 rw [← h1,Ai (by simpa using hia)]
 have:=Xo hin hn hlv _ (jq (atoms:=atoms) (i:=((i:Nat):Int)) (by simpa using hia))
 omega
theorem Tryz.VZ (atoms:List Tm) (rules:List Gr) (names:List Tm) (hid:Bool) (lv:Str→Nat) (hG:Pure Tryz.prog 9 [gD atoms rules,.list (names.map enT),.bool hid] [.int .i64 ((iI atoms.length rules (aV (cO atoms.length (aA atoms.length rules)) atoms.length):Nat):Int),.int .i64 0])
  (hok:∀ x∈atoms,okT x) (hsh:∀ x∈atoms,shT x) (hv:aP atoms rules=true) (hR:bG names=true) (hn:atoms.length≤64) (hr:rules.length≤128) (hf:∀ r∈rules,r.2.1.length+r.2.2.length≤16) (hokn:∀ x∈names,okT x)
  (hlv:dP (nmS atoms) (dX atoms rules [])=some lv) (hsz:iI atoms.length rules (aV (cO atoms.length (aA atoms.length rules)) atoms.length)≤16384) :
  ∃ (gs:List Gt) (ini next legal:List Int) (gl sl:List Ot) (term:Int),LY gs names (aZ atoms) (kW atoms names) ini next legal gl sl term∧gs.length≤iI atoms.length rules (aV (cO atoms.length (aA atoms.length rules)) atoms.length) ∧
    Pure Tryz.prog 14 [gD atoms rules,.list (names.map enT),.bool hid] [fQ gs names (aZ atoms) (kW atoms names) ini next legal (gl.map aK) (sl.map aK) term hid,.int .i64 0] ∧
    ∃ (next' legal':List Int) (gl' sl':List Ot),gl'.map fB=gl.map fB∧sl'.map fB=sl.map fB∧gl'.length≤1000∧sl'.length≤1000 ∧
      Pure Tryz.prog 18 [gD atoms rules,.list (names.map enT),.bool hid] [fQ [] names (aZ atoms) (kW atoms names) ini next' legal' (gl'.map aK) (sl'.map aK) 0 hid]:=by
 have hin:=eP hv
 have hfit:yY rules:=fun r h=>by have:=hf r h;omega
 have hsr:=Jq hin hn hlv
 have hR2:1≤names.length∧names.length≤4:=by
  have:=hR
  unfold bG at this
  simp only [Bool.and_eq_true,decide_eq_true_eq] at this
  exact this.1
 have hGr:=Tryz.KL atoms rules names hid _ hG hok hsh hv hn hr hf hokn (by omega) lv hlv hsr
 unfold VE at hGr
 rw [OQ hR] at hGr
 have hS14:=Tryz.Jm atoms rules hok hv hn hr hf
 unfold strD at hS14
 rw [hlv] at hS14
 dsimp only at hS14
 rw [show (atoms.map fun t=>D.int .i64 (ofL t.name ((nmS atoms).map fun n=>(n,((lv n:Nat):Int)))))=(dS atoms lv).map enI from by unfold dS;rw [List.map_map];rfl] at hS14
 have hRk:=Tryz.Vr atoms rules (dS atoms lv) [] hv hok hfit rfl (by simp) hin hn hr hf (by unfold dS;rw [List.length_map]) hsr hS14
 rw [Nh hin hlv] at hRk
 have hrkl:=vJ atoms.length (dS atoms lv) rules hn
 have hM:=Tryz.VG atoms rules [] _ hrkl hRk
 generalize jf atoms.length (dS atoms lv) rules=rk at *
 have hha:=F6 rk rk.length
 have hh0:∀ x∈holdL rk rk.length,0≤x:=fun x hx=>by
  obtain ⟨i,_,rfl⟩:=List.mem_map.1 hx
  omega
 have hLi:=Tryz.VI atoms names rules hid (holdL rk rk.length) hn hok hokn (by omega) (Nat.le_trans (tJ _ _) hrkl) hM
 rw [TP hv hha hh0,NS (GX hv) (csN atoms rules names (aV (cO atoms.length (aA atoms.length rules)) atoms.length)).2,Qm atoms (csN atoms rules names (aV (cO atoms.length (aA atoms.length rules)) atoms.length)).2] at hLi
 have hN:=Tt (names:=names) (holdL rk rk.length) hv hok hn hR hsz
 have hbb:∀ l:List Ot,(l.map fB).map fB=l.map fB:=fun l=>by rw [List.map_map];rfl
 exact ⟨_,_,_,_,_,_,_,hN,OJ hin hR,hGr,_,_,_,_,hbb _,hbb _,by rw [List.length_map];exact hN.g1,by rw [List.length_map];exact hN.s1,hLi⟩
set_option maxRecDepth 10000 in
theorem Tryz.compileLists (halive:Pure Tryz.prog 8 [] [.bool true]) (atoms:List Tm) (rules:List Gr) (names:List Tm) (hid:Bool) (hok:∀ x∈atoms,okT x) (hlen:atoms.length≤4000000000000000000) (hlr:rules.length≤4000000000000000000)
  (hw:∀ r∈rules,r.2.1.length≤4000000000000000000∧r.2.2.length≤4000000000000000000) (hokn:∀ x∈names,okT x) (hln:names.length≤4000000000000000000) :
  Pure Tryz.prog 4 [gD atoms rules,.list (names.map enT),.bool hid] [.bool true]:=by
 refine Pure.of_wp hT (nt:=_) (c:=_) Tryz.func4 rfl rfl rfl rfl (by kernel_rfl) ?_
 intro w0 ok0 β0
 repeat (refine gw rfl ?_;conv=>whnf)
 refine .inl ⟨_,Tryz.Vf atoms rules hok hlen hlr hw,.inl rfl,?_⟩
 conv=>whnf
 cases hs:Own.pq atoms rules with
 | false=>
   conv=>whnf
   repeat (refine gw rfl ?_;conv=>whnf)
   refine .inl ⟨_,halive,.inl rfl,?_⟩
   conv=>whnf
   repeat (refine gw rfl ?_;conv=>whnf)
 | true=>
   obtain ⟨hn,hr,hf⟩:=small_facts hs
   have hsh:∀ x∈atoms,shT x:=by
    unfold Own.pq at hs
    simp only [Bool.and_eq_true] at hs
    exact Me (by decide) (by decide) hs.1.1
   conv=>whnf
   rw [List.length_map]
   by_cases h6:names.length≤6
   ·rw [show decide (((names.length:Nat):Int)>6)=false from decide_eq_false (by omega)]
    conv=>whnf
    refine .inl ⟨_,Tryz.Ju 20 (by decide) names hokn (by omega),.inl rfl,?_⟩
    conv=>whnf
    cases hsn:Own.jc (20:Nat) names with
    | false=>
      conv=>whnf
      repeat (refine gw rfl ?_;conv=>whnf)
      refine .inl ⟨_,halive,.inl rfl,?_⟩
      conv=>whnf
      repeat (refine gw rfl ?_;conv=>whnf)
    | true=>
      have hf16:∀ r∈rules,r.2.1.length+r.2.2.length≤16:=fun r h=>by have:=hf r h;omega
      obtain ⟨e,x,y,hS1,hS2,hE⟩:∃ (e:Int) (x y:D),(aP atoms rules=true→Pure Tryz.prog 31 [gD atoms rules] [x,.int .i64 e])∧(aP atoms rules=true→Pure Tryz.prog 37 [gD atoms rules] [y,.int .i64 e])∧(e=0→∃ lv,dP (nmS atoms) (dX atoms rules [])=some lv):=by
       have h1:=fun hv=>Tryz.OH atoms rules hok hv (by omega) (by omega) hf16
       have h2:=fun hv=>Tryz.Jm atoms rules hok hv (by omega) (by omega) hf16
       unfold strD at h1 h2
       cases hlv:dP (nmS atoms) (dX atoms rules []) with
       | none=>rw [hlv] at h1 h2;exact ⟨10,_,_,h1,h2,fun h=>by cases h⟩
       | some lv=>rw [hlv] at h1 h2;exact ⟨0,_,_,h1,h2,fun _=>⟨lv,rfl⟩⟩
      have hP:=Tryz.Ug atoms rules names hid e x hok (by omega) (by omega) hf16 hokn (by omega) hS1
      have hR:=Tryz.V5 atoms rules names hid e y hok (by omega) (by omega) hf16 (by omega) hS2
      by_cases hz:(jy atoms rules names e).2=0
      ·obtain ⟨hv,hRo,_,he,hsz,hgv⟩:=QW hz
       obtain ⟨lv,hlv⟩:=hE he
       rw [hgv] at hP hR
       obtain ⟨gs,ini,next,legal,gl,sl,term,hN,hgl,hGr,next',legal',gl',sl',e1,e2,l1,l2,hLi⟩:=Tryz.VZ atoms rules names hid lv hP hok hsh hv hRo (by omega) (by omega) hf16 hokn hlv hsz
       have hC:=Tryz.checkN hid hN
       have hLL:=Tryz.Tz gs [] names (aZ atoms) (kW atoms names) ini next legal next' legal' gl sl gl' sl' term 0 hid (by omega) (Nat.le_trans hN.b1 (by decide)) (Nat.le_trans hN.i1 (by decide)) (Nat.le_trans hN.n1 (by decide)) (Nat.le_trans hN.g1 (by decide)) (Nat.le_trans hN.s1 (by decide)) (Nat.le_trans l1 (by decide)) (Nat.le_trans l2 (by decide))
        hokn (fun x hx=>(hN.bs x hx).1) (fun x hx=>(hN.is x hx).1) (fun x hx=>aU.2 ⟨by rw [(hN.gf x hx).2.2.2.2];decide,fun z hz=>by rw [List.length_eq_zero_iff.1 (hN.gf x hx).2.2.2.2] at hz;cases hz⟩) (fun x hx=>(hN.sf x hx).2.2.1) e1 e2 hN.x1 hN.x2
       generalize iI atoms.length rules (aV (cO atoms.length (aA atoms.length rules)) atoms.length)=sz at *
       conv=>whnf
       repeat (refine gw rfl ?_;conv=>whnf)
       refine .inl ⟨_,hGr,.inl rfl,?_⟩
       conv=>whnf
       repeat (refine gw rfl ?_;conv=>whnf)
       refine .inl ⟨_,hR,.inl rfl,?_⟩
       conv=>whnf
       repeat (refine gw rfl ?_;conv=>whnf)
       refine .inl ⟨_,halive,.inl rfl,?_⟩
       conv=>whnf
       rw [List.length_map,show decide (((gs.length:Nat):Int)≤((sz:Nat):Int))=true from decide_eq_true (by omega)]
       conv=>whnf
       refine .inl ⟨_,hC,.inl rfl,?_⟩
       conv=>whnf
       refine .inl ⟨_,hLi,.inl rfl,?_⟩
       conv=>whnf
       refine .inl ⟨_,hLL,.inl rfl,?_⟩
       conv=>whnf
       repeat (refine gw rfl ?_;conv=>whnf)
      ·have hGr:=Tryz.QO atoms rules names hid _ _ hz hP
       have hS:=Tryz.O4 [] [] [] [] [] [] false (by simp) (by simp) (by simp) (by simp) (by simp) (by simp) (by simp) (by simp) (by simp) (by simp) (by simp)
       generalize jy atoms rules names e=gv at *
       conv=>whnf
       repeat (refine gw rfl ?_;conv=>whnf)
       refine .inl ⟨_,hGr,.inl rfl,?_⟩
       conv=>whnf
       repeat (refine gw rfl ?_;conv=>whnf)
       refine .inl ⟨_,hR,.inl rfl,?_⟩
       conv=>whnf
       repeat (refine gw rfl ?_;conv=>whnf)
       rw [show (gv.2 != gv.2)=false by simp]
       conv=>whnf
       repeat (refine gw rfl ?_;conv=>whnf)
       rw [show (gv.2 != 0)=true from bne_iff_ne.2 hz]
       conv=>whnf
       repeat (refine gw rfl ?_;conv=>whnf)
       refine .inl ⟨_,halive,.inl rfl,?_⟩
       conv=>whnf
       refine .inl ⟨_,hS,.inl rfl,?_⟩
       conv=>whnf
       repeat (refine gw rfl ?_;conv=>whnf)
   ·rw [show decide (((names.length:Nat):Int)>6)=true from decide_eq_true (by omega)]
    conv=>whnf
    repeat (refine gw rfl ?_;conv=>whnf)
    refine .inl ⟨_,halive,.inl rfl,?_⟩
    conv=>whnf
    repeat (refine gw rfl ?_;conv=>whnf)
theorem XQ:∃ (ini:List Int),LY cs1.1.1 dn (aZ aI) (kW aI dn) ini (nextL aI cs1.2 (aZ aI)) (jr aI cs1.2 dn (kW aI dn)) (kD aI cs1.2 dn) (qp aI cs1.2 dn) (ofV aI cs1.2 iy []) ∧
  Pure Tryz.prog 9 [gD aI dM,.list (dn.map enT),.bool false] [.int .i64 34,.int .i64 0] ∧
  Pure Tryz.prog 14 [gD aI dM,.list (dn.map enT),.bool false] [fQ cs1.1.1 dn (aZ aI) (kW aI dn) ini (nextL aI cs1.2 (aZ aI)) (jr aI cs1.2 dn (kW aI dn)) ((kD aI cs1.2 dn).map aK) ((qp aI cs1.2 dn).map aK) (ofV aI cs1.2 iy []) false,.int .i64 0]:=by
 have hf:∀ r∈dM,r.2.1.length+r.2.2.length≤16:=by decide
 obtain ⟨lv,hlv⟩:=Option.isSome_iff_exists.1 Xq
 have hS:=Tryz.OH aI dM ok0 yg (by decide) (by decide) hf
 unfold strD at hS
 rw [hlv] at hS
 have hP:=Tryz.Ug aI dM dn false 0 _ ok0 (by decide) (by decide) hf Yc (by decide) (fun _=>hS)
 have hg:jy aI dM dn 0=(34,0):=by
  unfold jy
  rw [yg,MQ,given0,IB,WO]
  rfl
 rw [hg] at hP
 have hsr:=Jq (eP yg) (by decide) hlv
 have hGr:=Tryz.KL aI dM dn false _ hP ok0 sh0 yg (by decide) (by decide) hf Yc (by decide) lv hlv hsr
 unfold VE at hGr
 rw [OQ MQ,IB,UC] at hGr
 have hN:=Tt (atoms:=aI) (names:=dn) (rules:=dM) (G:=xB) (holdL (jf aI.length (dS aI lv) dM) (jf aI.length (dS aI lv) dM).length) yg ok0 (by decide) MQ (by rw [WO];decide)
 rw [UC] at hN
 exact ⟨_,hN,hP,hGr⟩
set_option maxRecDepth 10000 in
theorem Tryz.XY (atoms names:List Tm) (rules:List Gr) (gs:List Gt) (B:List Tm) (Ii:List In) (ini nx lg:List Int) (gl sl:List D) (tm:Int) (hb1:B.length=1) (hi1:Ii.length=1)
  (hSa:Pure Tryz.prog 25 [] [gD atoms rules]) (hAt:Pure Tryz.prog 26 [.str [120]] [.list (names.map enT)])
  (hGs:Pure Tryz.prog 12 [gD atoms rules] [.list (dh xB)]) (hL:Pure Tryz.prog 11 [.list (dh xB),.list (dh xB)] [.bool true])
  (hP:Pure Tryz.prog 9 [gD atoms rules,.list (names.map enT),.bool false] [.int .i64 34,.int .i64 0])
  (hGr:Pure Tryz.prog 14 [gD atoms rules,.list (names.map enT),.bool false] [fQ gs names B Ii ini nx lg gl sl tm false,.int .i64 0])
  (hV0:Pure Tryz.prog 27 [fQ gs names B Ii ini nx lg gl sl tm false,.list []] [.bool true,.int .i64 0])
  (hV1:Pure Tryz.prog 27 [fQ gs names B Ii ini nx lg gl sl tm false,.list [.int .i64 0]] [.bool false,.int .i64 0]) :
  Pure Tryz.prog 8 [] [.bool true]:=by
 refine Pure.of_wp hT (nt:=_) (c:=_) Tryz.func8 rfl rfl rfl rfl (by kernel_rfl) ?_
 intro w0 ok0' β0
 repeat (refine gw rfl ?_;conv=>whnf)
 refine .inl ⟨_,hSa,.inl rfl,?_⟩
 conv=>whnf
 repeat (refine gw rfl ?_;conv=>whnf)
 refine .inl ⟨_,hAt,.inl rfl,?_⟩
 conv=>whnf
 iterate 2
  refine gw rfl ?_
  conv=>whnf
 refine W2 hT hM [13,14,15,16,17,18,19] ?_
 conv=>whnf
 refine .inl ⟨_,hGs,.inl rfl,?_⟩
 conv=>whnf
 repeat
  refine ⟨rfl,?_⟩
  conv=>whnf
 refine .inl ⟨_,hL,.inl rfl,?_⟩
 conv=>whnf
 repeat (refine gw rfl ?_;conv=>whnf)
 refine .inl ⟨_,hP,.inl rfl,?_⟩
 conv=>whnf
 repeat (refine gw rfl ?_;conv=>whnf)
 refine .inl ⟨_,hGr,.inl rfl,?_⟩
 conv=>whnf
 repeat (refine gw rfl ?_;conv=>whnf)
 rw [List.length_map,hb1]
 conv=>whnf
 rw [List.length_map,hi1]
 conv=>whnf
 repeat (refine gw rfl ?_;conv=>whnf)
 refine .inl ⟨_,hV0,.inl rfl,?_⟩
 conv=>whnf
 refine gw rfl ?_
 conv=>whnf
 refine W2 hT hM [63] ?_
 conv=>whnf
 refine ⟨rfl,?_⟩
 conv=>whnf
 refine .inl ⟨_,hV1,.inl rfl,?_⟩
 conv=>whnf
 repeat (refine gw rfl ?_;conv=>whnf)
 rfl
theorem Ye {gs:List Gt} {nm:List Tm} {B:List Tm} {Ii:List In} {ini nx lg:List Int} {gl sl:List Ot} {tm:Int} (hN:LY gs nm B Ii ini nx lg gl sl tm) (hb1:B.length=1) (st:List Int) (h1:st.length≤1) (h2:∀ x∈st,x=0) (h3:st.Pairwise (·<·)) :
  Pure Tryz.prog 27 [fQ gs nm B Ii ini nx lg (gl.map aK) (sl.map aK) tm false,.list (st.map enI)] [.bool (vX (valsF st [] gs) tm),.int .i64 0]:=by
 have hr:=hN.ran tm (by simp)
 exact Tryz.L6 gs nm B Ii ini nx lg gl sl tm false st (valsF st [] gs) hr.1 (by rw [EU];omega)
  (Tryz.Rz gs nm B Ii ini nx lg gl sl tm false st [] hN.len hN.gates (Tryz.checkN false hN) (by omega) (by decide) (fun x hx=>by rw [h2 x hx,hb1];decide) h3 (fun x hx=>by cases hx) .nil)
theorem Tryz.alive:Pure Tryz.prog 8 [] [.bool true]:=by
 obtain ⟨ini,hN,hP,hGr⟩:=XQ
 have hGs:=Tryz.groups aI dM ok0 yg (by decide) (by decide) (by decide)
 rw [IB] at hGs
 have hV0:=Ye hN rfl [] (by decide) (fun x hx=>by cases hx) .nil
 have hV1:=Ye hN rfl [0] (by decide) (fun x hx=>List.mem_singleton.1 hx) (List.pairwise_singleton _ _)
 rw [X5] at hV0
 rw [X4] at hV1
 exact Tryz.XY aI dn dM _ _ _ ini _ _ _ _ _ rfl rfl Tryz.sample (Tryz.UU [120] 5 dn 1 (by decide) Ya) hGs (Tryz.QC xB (by decide) (by decide)) hP hGr hV0 hV1
end Go.Proofs.YtdonenoiehdahaaGreat
