/- (*compiler).atom. -/
import Derived.Test.YtdonenoiehdahaaGreatLtJAnd
set_option linter.all false
namespace Go.Own
open Go.Abs
def gI (val:Mi) (s:Gn×List Int) (b:Int):Gn×List Int:=(oD val s.1 b,s.2++[Bq s.1 b])
def jB (val:Mi) (r:Gr) (s:Gn):Gn×List Int:=r.2.2.foldl (gI val) (s,r.2.1.map (bI val))
def rJ (val:Mi) (r:Gr) (s:Gn):Gn:=(gX (jB val r s).1.1 4 (jB val r s).2,(jB val r s).1.2)
def GN (val:Mi) (r:Gr) (s:Gn):Int:=nM (jB val r s).1.1 4 (jB val r s).2
def iQ (rules:List Gr) (i:Int):Gr:=rules.getD i.toNat (0,[],[])
def fO (val:Mi) (rules:List Gr) (s:Gn×List Int) (i:Int):Gn×List Int:=(rJ val (iQ rules i) s.1,s.2++[GN val (iQ rules i) s.1])
def gy (val:Mi) (rules:List Gr) (l:List Int) (s:Gn):Gn×List Int:=l.foldl (fO val rules) (s,[])
def nV (val:Mi) (rules:List Gr) (l:List Int) (s:Gn):Gn:=(gX (gy val rules l s).1.1 5 (gy val rules l s).2,(gy val rules l s).1.2)
def uj (val:Mi) (rules:List Gr) (l:List Int) (s:Gn):Int:=nM (gy val rules l s).1.1 5 (gy val rules l s).2
theorem zy (gs:List Gt) (k:Int) (l:List Int):(gX gs k l).length≤gs.length+1∧gs.length≤(gX gs k l).length:=by
 unfold gX;split<;>simp
theorem UN (val:Mi) (s:Gn) (a:Int):(oD val s a).1.length≤s.1.length+1:=by
 unfold oD;split<;>simp
theorem zF (val:Mi):∀ (l:List Int) (s:Gn×List Int),(l.foldl (gI val) s).1.1.length≤s.1.1.length+l.length∧(l.foldl (gI val) s).2.length=s.2.length+l.length
 | [],s=>⟨Nat.le_refl _,rfl⟩
 | b::l,s=>by
   obtain ⟨h1,h2⟩:=zF val l (gI val s b);have:=UN val s.1 b;rw [List.foldl_cons,List.length_cons];refine ⟨Nat.le_trans h1 ?_,h2.trans ?_⟩
   ·show (oD val s.1 b).1.length+_≤_;omega
   ·show (s.2++_).length+_=_;rw [List.length_append];simp;omega
theorem RS (val:Mi) (r:Gr) (s:Gn):(rJ val r s).1.length≤s.1.length+r.2.2.length+1:=by
 have h1:=(zy (jB val r s).1.1 4 (jB val r s).2).1;have h2:=(zF val r.2.2 (s,r.2.1.map (bI val))).1;show (gX _ _ _).length≤_;unfold jB at *;simp only at h2;omega
theorem zH (val:Mi) {rules:List Gr} (hf:∀ r∈rules,r.2.1.length+r.2.2.length≤16):∀ (l:List Int) (s:Gn×List Int),(l.foldl (fO val rules) s).1.1.length≤s.1.1.length+17*l.length∧(l.foldl (fO val rules) s).2.length=s.2.length+l.length
 | [],s=>⟨Nat.le_refl _,rfl⟩
 | b::l,s=>by
   obtain ⟨h1,h2⟩:=zH val hf l (fO val rules s b);have h3:=RS val (iQ rules b) s.1;have h4:(iQ rules b).2.2.length≤16:=by
    unfold iQ;rw [List.getD_eq_getElem?_getD];cases h:rules[b.toNat]? with
    | none=>simp
    | some r=>have:=hf r (List.mem_of_getElem? h);simp;omega
   rw [List.foldl_cons,List.length_cons];refine ⟨Nat.le_trans h1 ?_,h2.trans ?_⟩
   ·show (rJ val _ s.1).1.length+_≤_;omega
   ·show (s.2++_).length+_=_;rw [List.length_append];simp;omega
theorem TL (val:Mi) {rules:List Gr} (hf:∀ r∈rules,r.2.1.length+r.2.2.length≤16) (l:List Int) (s:Gn):(nV val rules l s).1.length≤s.1.length+17*l.length+1:=by
 have h1:=(zy (gy val rules l s).1.1 5 (gy val rules l s).2).1;have h2:=(zH val hf l (s,[])).1;show (gX _ _ _).length≤_;unfold gy at *;simp only at h2;omega
end Go.Own
namespace Go.Proofs.YtdonenoiehdahaaGreat
open Go Go.Abs Go.Own
attribute [local irreducible] WP
theorem SI {rules:List Gr} {a i:Nat} (h:i<(aI rules a rules.length).length):0≤(aI rules a rules.length)[i]∧(aI rules a rules.length)[i].toNat<rules.length:=by
 have hm:(aI rules a rules.length)[i]∈aI rules a rules.length:=List.getElem_mem h;obtain ⟨j,hj,e⟩:=List.mem_map.1 hm;have:=List.mem_range.1 (List.mem_filter.1 hj).1;omega
theorem Tryz.aah (rules:List Gr) (n a:Nat) (gs:List Gt) (val neg:Mi) (hn:n≤64) (hr:rules.length≤128) (hf:∀ r∈rules,r.2.1.length+r.2.2.length≤16) (ha:a<n) (hg:gs.length≤900000000000) :
  aH Tryz.prog 89 [0,1,2,3] [.ptr 0 0,.d (.int .i64 a)]
   [((0,1),.cell (.d (.list (rules.map enG)))),((0,2),.cell (.d (.list ((hdM n rules rules.length).map fun r => .list (r.map enI))))),((0,3),.cell (.sl 1 3 0 gs.length)),((1,0),.arr 3 (gs.map dN)),((0,4),.cell (.map 2)),((2,0),.map (mpI val)),((0,5),.cell (.map 3)),((3,0),.map (mpI neg))] [4] [.d (.int .i64 (uj val rules (aI rules a rules.length) (gs,neg)))]
   [((0,1),.cell (.d (.list (rules.map enG)))),((0,2),.cell (.d (.list ((hdM n rules rules.length).map fun r => .list (r.map enI))))),((0,3),.cell (.sl 4 3 0 (nV val rules (aI rules a rules.length) (gs,neg)).1.length)),((4,0),.arr 3 ((nV val rules (aI rules a rules.length) (gs,neg)).1.map dN)),((0,4),.cell (.map 2)),((2,0),.map (mpI val)),((0,5),.cell (.map 3)),((3,0),.map (mpI (nV val rules (aI rules a rules.length) (gs,neg)).2))]:=by
 refine aH.of_wp hT (nt:=_) (c:=_) Tryz.func89 rfl rfl rfl rfl (by kernel_rfl) rfl rfl ?_;intro w0 ok0 wr β0;repeat (refine gw rfl ?_;conv=>whnf)
 refine ⟨by omega,_,Vj ha,rfl,?_⟩;conv=>whnf
 have hrl:(aI rules a rules.length).length≤rules.length:=by
  unfold aI;rw [List.length_map];exact Nat.le_trans (List.length_filter_le _ _) (by simp)
 have hget:=fun i=>SI (rules:=rules) (a:=a) (i:=i)
 generalize aI rules a rules.length=row at hrl hget ⊢;repeat (refine gw rfl ?_;conv=>whnf)
 refine WP.loop (α:=Nat) (fun i=>⟨[(0,.ptr 0 0),(5,.sl 50 1 0 ((row.take i).foldl (fO val rules) ((gs,neg),[])).2.length),(19,.d (.list (row.map enI))),(20,.d (.int .i64 row.length)),(21,.d (.int .i64 i))],
   [((0,1),some (.cell (.d (.list (rules.map enG))))),((0,2),some (.cell (.d (.list ((hdM n rules rules.length).map fun r => .list (r.map enI)))))),((0,3),some (.cell (.sl 4 3 0 ((row.take i).foldl (fO val rules) ((gs,neg),[])).1.1.length))),((4,0),some (.arr 3 (((row.take i).foldl (fO val rules) ((gs,neg),[])).1.1.map dN))),((0,4),some (.cell (.map 2))),((2,0),some (.map (mpI val))),((0,5),some (.cell (.map 3))),((3,0),some (.map (mpI ((row.take i).foldl (fO val rules) ((gs,neg),[])).1.2))),((50,0),some (.arr 1 (((row.take i).foldl (fO val rules) ((gs,neg),[])).2.map enI)))],[0,1,2,3,4,50]⟩)
  (fun i=>i≤row.length) (fun i=>row.length-i) 0 [(0,some 0),(1,some 1),(2,some 2),(3,some 3),(4,some 1),(50,none)] [] ?_ ?_ ?_
 ·rw [List.length_map];((conv=>whnf);repeat (first | exact ⟨⟩ | (refine ⟨by first | rfl | (simp;done) | (simp;omega),?_⟩;conv=>whnf)))
 ·exact Nat.zero_le _
 ·intro i hi;have hS:=zH val hf (row.take i) ((gs,neg),[]);have hS':=fun (h:i<row.length)=>bn (fO val rules) ((gs,neg),[]) row h
  rw [List.length_take,Nat.min_eq_left hi] at hS;generalize hSe:(row.take i).foldl (fO val rules) ((gs,neg),[])=S at hS hS' ⊢;obtain ⟨hS1,hS2⟩:=hS;simp only [List.length_nil,Nat.zero_add] at hS1 hS2;repeat (refine gw rfl ?_;conv=>whnf)
  (split<;>rename_i hb<;>(try rw [hb])<;>(conv=>whnf))
  ·have hlt:i<row.length:=(by simpa using hb);clear hb;specialize hS' hlt;(repeat (refine gw rfl ?_;conv=>whnf));refine ⟨by omega,_,ay hlt,rfl,?_⟩;(conv=>whnf);(repeat (refine gw rfl ?_;conv=>whnf));obtain ⟨g0,g1⟩:=hget i hlt;have hri:iQ rules row[i]=rules[row[i].toNat]:=(by unfold iQ;simp [g1]);have hrg:(rules.map enG)[row[i].toNat]?=some (enG rules[row[i].toNat]):=(by rw [List.getElem?_map,List.getElem?_eq_getElem g1];rfl);have hfr:=hf rules[row[i].toNat] (List.getElem_mem g1);generalize rules[row[i].toNat]=r at hri hrg hfr;refine ⟨g0,_,hrg,rfl,?_⟩;(conv=>whnf);repeat (refine gw rfl ?_;conv=>whnf)
   refine WP.loop (α:=Nat) (fun k=>⟨[(0,.ptr 0 0),(5,.sl 50 1 0 S.2.length),(19,.d (.list (row.map enI))),(20,.d (.int .i64 row.length)),(21,.d (.int .i64 i)),(7,.d (.int .i64 row[i])),(8,.sl 51 1 0 k),(33,.d (.list (r.2.1.map enI))),(34,.d (.int .i64 r.2.1.length)),(35,.d (.int .i64 k))],
     [((0,1),some (.cell (.d (.list (rules.map enG))))),((0,2),some (.cell (.d (.list ((hdM n rules rules.length).map fun r => .list (r.map enI)))))),((0,3),some (.cell (.sl 4 3 0 S.1.1.length))),((4,0),some (.arr 3 (S.1.1.map dN))),((0,4),some (.cell (.map 2))),((2,0),some (.map (mpI val))),((0,5),some (.cell (.map 3))),((3,0),some (.map (mpI S.1.2))),((50,0),some (.arr 1 (S.2.map enI))),((51,0),some (.arr 1 (((r.2.1.take k).map (bI val)).map enI)))],[0,1,2,3,4,50,51]⟩)
    (fun k=>k≤r.2.1.length) (fun k=>r.2.1.length-k) 0 [(0,some 0),(1,some 1),(2,some 2),(3,some 3),(4,some 4),(50,some 50),(51,none)] [] ?_ ?_ ?_
   ·rw [List.length_map];((conv=>whnf);repeat (first | exact ⟨⟩ | (refine ⟨by first | rfl | (simp;done) | (simp;omega),?_⟩;conv=>whnf)))
   ·exact Nat.zero_le _
   ·intro k hk;(repeat (refine gw rfl ?_;conv=>whnf));(split<;>rename_i hb<;>(try rw [hb])<;>(conv=>whnf))
    ·have hlk:k<r.2.1.length:=(by simpa using hb);clear hb;(repeat (refine gw rfl ?_;conv=>whnf));refine ⟨by omega,_,ay hlk,rfl,?_⟩;(conv=>whnf);(repeat (refine gw rfl ?_;conv=>whnf));refine ⟨gY rfl rfl _,?_⟩;(conv=>whnf);rw [show Abs.look (mpI val) (enI r.2.1[k])=Abs.look (mpI val) (.int .i64 r.2.1[k]) from rfl,sU]
     (refine ⟨rfl,?_⟩;(conv=>whnf);refine ⟨_,(congrArg (List.take _) List.drop_zero).trans (List.take_of_length_le (by first | (simp;done) | (simp;omega))),by first | (simp;done) | (simp;omega),?_⟩;(conv=>whnf);refine ⟨_,rfl,Nat.le_refl _,?_⟩;(conv=>whnf);refine ⟨by show (_+1)*8≤_;first | (simp;done) | (simp;omega),?_⟩;(conv=>whnf))
     (repeat (refine gw rfl ?_;conv=>whnf));refine ⟨by omega,?_⟩;(conv=>whnf);refine ⟨k+1,[(0,some 0),(1,some 1),(2,some 2),(3,some 3),(4,some 4),(50,some 50),(51,some 47)],[],?_,by omega,by omega⟩;rw [List.take_succ_eq_append_getElem hlk,List.map_append,List.map_append,List.map_singleton,List.map_singleton];((conv=>whnf);repeat (first | exact ⟨⟩ | (refine ⟨by first | rfl | (simp;done) | (simp;omega),?_⟩;conv=>whnf)))
    ·have hke:k=r.2.1.length:=(by simp at hb;omega);subst hke;clear hb;rw [List.take_length];(repeat (refine gw rfl ?_;conv=>whnf));refine ⟨g0,_,hrg,rfl,?_⟩;(conv=>whnf);repeat (refine gw rfl ?_;conv=>whnf)
     refine WP.loop (α:=Nat) (fun k=>⟨[(0,.ptr 0 0),(5,.sl 50 1 0 S.2.length),(19,.d (.list (row.map enI))),(20,.d (.int .i64 row.length)),(21,.d (.int .i64 i)),(7,.d (.int .i64 row[i])),(8,.sl 51 1 0 (r.2.1.length+k)),(57,.d (.list (r.2.2.map enI))),(58,.d (.int .i64 r.2.2.length)),(59,.d (.int .i64 k))],
       [((0,1),some (.cell (.d (.list (rules.map enG))))),((0,2),some (.cell (.d (.list ((hdM n rules rules.length).map fun r => .list (r.map enI)))))),((0,3),some (.cell (.sl 4 3 0 ((r.2.2.take k).foldl (gI val) (S.1,r.2.1.map (bI val))).1.1.length))),((4,0),some (.arr 3 (((r.2.2.take k).foldl (gI val) (S.1,r.2.1.map (bI val))).1.1.map dN))),((0,4),some (.cell (.map 2))),((2,0),some (.map (mpI val))),((0,5),some (.cell (.map 3))),((3,0),some (.map (mpI ((r.2.2.take k).foldl (gI val) (S.1,r.2.1.map (bI val))).1.2))),((50,0),some (.arr 1 (S.2.map enI))),((51,0),some (.arr 1 (((r.2.2.take k).foldl (gI val) (S.1,r.2.1.map (bI val))).2.map enI)))],[0,1,2,3,4,50,51]⟩)
      (fun k=>k≤r.2.2.length) (fun k=>r.2.2.length-k) 0 [(0,some 0),(1,some 1),(2,some 2),(3,some 3),(4,some 4),(50,some 50),(51,some 51)] [] ?_ ?_ ?_
     ·rw [List.length_map];((conv=>whnf);repeat (first | exact ⟨⟩ | (refine ⟨by first | rfl | (simp;done) | (simp;omega),?_⟩;conv=>whnf)))
     ·exact Nat.zero_le _
     ·intro k hk;have hN:=zF val (r.2.2.take k) (S.1,r.2.1.map (bI val));have hN':=fun (h:k<r.2.2.length)=>bn (gI val) (S.1,r.2.1.map (bI val)) r.2.2 h
      rw [List.length_take,Nat.min_eq_left hk] at hN;generalize hNe:(r.2.2.take k).foldl (gI val) (S.1,r.2.1.map (bI val))=N at hN hN' ⊢;obtain ⟨hN1,hN2⟩:=hN;simp only [List.length_map] at hN1 hN2;(repeat (refine gw rfl ?_;conv=>whnf));(split<;>rename_i hb<;>(try rw [hb])<;>(conv=>whnf))
      ·have hlk:k<r.2.2.length:=(by simpa using hb);clear hb;specialize hN' hlk;(repeat (refine gw rfl ?_;conv=>whnf));refine ⟨by omega,_,ay hlk,rfl,?_⟩;(conv=>whnf);(repeat (refine gw rfl ?_;conv=>whnf));refine .inr ⟨_,_,_,_,_,_,Tryz.aan N.1.1 val N.1.2 r.2.2[k] (by omega),[(0,0),(1,4),(2,2),(3,3),(4,60)],[60],rfl,rfl,?_⟩;(conv=>whnf);refine ⟨rfl,rfl,rfl,rfl,rfl,rfl,?_⟩;conv=>whnf
       (refine ⟨rfl,?_⟩;(conv=>whnf);refine ⟨_,(congrArg (List.take _) List.drop_zero).trans (List.take_of_length_le (by first | (simp;done) | (simp;omega))),by first | (simp;done) | (simp;omega),?_⟩;(conv=>whnf);refine ⟨_,rfl,Nat.le_refl _,?_⟩;(conv=>whnf);refine ⟨by show (_+1)*8≤_;first | (simp;done) | (simp;omega),?_⟩;(conv=>whnf))
       (repeat (refine gw rfl ?_;conv=>whnf));refine ⟨by omega,?_⟩;(conv=>whnf);refine ⟨k+1,[(0,some 0),(1,some 1),(2,some 2),(3,some 3),(4,some 60),(50,some 50),(51,some 68)],[],?_,by omega,by omega⟩;rw [hN'];unfold gI;rw [List.map_append,List.map_singleton];((conv=>whnf);repeat (first | exact ⟨⟩ | (refine ⟨by first | rfl | (simp;done) | (simp;omega),?_⟩;conv=>whnf)))
      ·have hke:k=r.2.2.length:=(by simp at hb;omega);subst hke;clear hb hN';rw [List.take_length] at hNe
       refine WP.weak (l':=⟨[(0,.ptr 0 0),(5,.sl 50 1 0 S.2.length),(19,.d (.list (row.map enI))),(20,.d (.int .i64 row.length)),(21,.d (.int .i64 i)),(8,.d (.list (N.2.map enI)))],
         [((0,1),some (.cell (.d (.list (rules.map enG))))),((0,2),some (.cell (.d (.list ((hdM n rules rules.length).map fun r => .list (r.map enI)))))),((0,3),some (.cell (.sl 4 3 0 N.1.1.length))),((4,0),some (.arr 3 (N.1.1.map dN))),((0,4),some (.cell (.map 2))),((2,0),some (.map (mpI val))),((0,5),some (.cell (.map 3))),((3,0),some (.map (mpI N.1.2))),((50,0),some (.arr 1 (S.2.map enI)))],[0,1,2,3,4,50]⟩) [(0,some 0),(1,some 1),(2,some 2),(3,some 3),(4,some 4),(50,some 50)] [51] ?_ ?_
       ·((conv=>whnf);repeat (first | exact ⟨⟩ | (refine ⟨by first | rfl | (simp;done) | (simp;omega),?_⟩;conv=>whnf)));refine ⟨N.2.map enI,by rw [List.drop_zero];exact List.take_of_length_le (by simp;omega),by simp;omega,rfl,?_⟩;((conv=>whnf);repeat (first | exact ⟨⟩ | (refine ⟨by first | rfl | (simp;done) | (simp;omega),?_⟩;conv=>whnf)))
       have hbN:jB val r S.1=N:=hNe;have hSr:fO val rules S row[i]=((gX N.1.1 4 N.2,N.1.2),S.2++[nM N.1.1 4 N.2]):=by
        unfold fO rJ GN;rw [hri,hbN]
       have hjl:=(zy N.1.1 4 N.2).1;(repeat (refine gw rfl ?_;conv=>whnf));refine .inr ⟨_,_,_,_,_,_,Tryz.join N.1.1 4 N.2 (by omega) (by omega),[(0,0),(1,4),(2,60)],[60],rfl,rfl,?_⟩;(conv=>whnf);refine ⟨rfl,rfl,?_⟩;conv=>whnf
       (refine ⟨rfl,?_⟩;(conv=>whnf);refine ⟨_,(congrArg (List.take _) List.drop_zero).trans (List.take_of_length_le (by first | (simp;done) | (simp;omega))),by first | (simp;done) | (simp;omega),?_⟩;(conv=>whnf);refine ⟨_,rfl,Nat.le_refl _,?_⟩;(conv=>whnf);refine ⟨by show (_+1)*8≤_;first | (simp;done) | (simp;omega),?_⟩;(conv=>whnf))
       (repeat (refine gw rfl ?_;conv=>whnf));refine ⟨by omega,?_⟩;(conv=>whnf);refine ⟨i+1,[(0,some 0),(1,some 1),(2,some 2),(3,some 3),(4,some 60),(50,some 75)],[],?_,by omega,by omega⟩;rw [hS',hSr,List.map_append,List.map_singleton];((conv=>whnf);repeat (first | exact ⟨⟩ | (refine ⟨by first | rfl | (simp;done) | (simp;omega),?_⟩;conv=>whnf)))
  ·have hie:i=row.length:=(by simp at hb;omega);subst hie;clear hb hS';rw [List.take_length] at hSe;have hbS:gy val rules row (gs,neg)=S:=hSe;have hA:nV val rules row (gs,neg)=(gX S.1.1 5 S.2,S.1.2)∧uj val rules row (gs,neg)=nM S.1.1 5 S.2:=by
    unfold nV uj;rw [hbS];exact ⟨rfl,rfl⟩
   rw [hA.1,hA.2]
   refine WP.weak (l':=⟨[(0,.ptr 0 0),(5,.d (.list (S.2.map enI)))],
     [((0,1),some (.cell (.d (.list (rules.map enG))))),((0,2),some (.cell (.d (.list ((hdM n rules rules.length).map fun r => .list (r.map enI)))))),((0,3),some (.cell (.sl 4 3 0 S.1.1.length))),((4,0),some (.arr 3 (S.1.1.map dN))),((0,4),some (.cell (.map 2))),((2,0),some (.map (mpI val))),((0,5),some (.cell (.map 3))),((3,0),some (.map (mpI S.1.2)))],[0,1,2,3,4]⟩) [(0,some 0),(1,some 1),(2,some 2),(3,some 3),(4,some 4)] [50] ?_ ?_
   ·((conv=>whnf);repeat (first | exact ⟨⟩ | (refine ⟨by first | rfl | (simp;done) | (simp;omega),?_⟩;conv=>whnf)));refine ⟨S.2.map enI,by rw [List.drop_zero];exact List.take_of_length_le (by simp),by simp,rfl,?_⟩;((conv=>whnf);repeat (first | exact ⟨⟩ | (refine ⟨by first | rfl | (simp;done) | (simp;omega),?_⟩;conv=>whnf)))
   (repeat (refine gw rfl ?_;conv=>whnf));refine .inr ⟨_,_,_,_,_,_,Tryz.join S.1.1 5 S.2 (by omega) (by omega),[(0,0),(1,4),(2,60)],[60],rfl,rfl,?_⟩;(conv=>whnf);refine ⟨rfl,rfl,?_⟩;(conv=>whnf);(repeat (refine gw rfl ?_;conv=>whnf));refine ⟨[(0,some 0),(1,some 1),(2,some 2),(3,some 3),(4,some 60)],[],?_,rfl⟩;((conv=>whnf);repeat (first | exact ⟨⟩ | (refine ⟨by first | rfl | (simp;done) | (simp;omega),?_⟩;conv=>whnf)))
end Go.Proofs.YtdonenoiehdahaaGreat
namespace Go.Abs
open Go Go.RowKit
theorem WP.join {P:Program} {C:Ctx} {Q:Exit→SL→Prop} {l:SL} {α:Type} {a b:Code} (st:α→SL) (I:α→Prop) (h1:WP P C a (Qc (fun l'=>∃ x m fz,xH C.u0 m fz l' (st x)∧I x) Q) l) (h2:∀ x,I x→WP P C b Q (st x)):WP P C (.seq a b) Q l:=by
 intro hok act w hr;simp only [codeOk,Bool.and_eq_true] at hok;refine wp_seq (wp_mono (h1 hok.1 act w hr) ?_);rintro e a' w' ⟨l',hr',hq⟩;cases e
 case normal=>
  obtain ⟨x,m,fz,hw,hI⟩:=hq;exact h2 x hI hok.2 a' w' (hr'.weak hw)
 all_goals exact ⟨l',hr',hq⟩
end Go.Abs
namespace Go.Proofs.YtdonenoiehdahaaGreat
open Go Go.Abs Go.Own
attribute [local irreducible] WP
abbrev Cs:=Gn×Mi
def iP (rules:List Gr) (val:Mi) (q:Cs) (a:Nat):Cs:=(nV val rules (aI rules a rules.length) q.1,gU q.2 (a:Nat) (uj val rules (aI rules a rules.length) q.1))
def Aw (rules:List Gr) (g:List Nat) (c:Cs):Cs:=g.foldl (iP rules c.2) (c.1,[])
def qP (next:Mi) (g:List Nat) (val:Mi):Mi:=g.foldl (fun m a=>gU m (a:Nat) (bI next (a:Nat))) val
def oh (rules:List Gr) (g:List Nat) (c:Cs):Cs:=((Aw rules g c).1,qP (Aw rules g c).2 g c.2)
def bZ (rules:List Gr) (g:List Nat):Nat→Cs→Cs
 | 0,c=>c
 | k+1,c=>oh rules g (bZ rules g k c)
def jU (g:List Nat) (val:Mi):Mi:=g.foldl (fun m a=>gU m (a:Nat) 0) val
noncomputable def gV (rules:List Gr) (g:List Nat) (c:Cs):Cs:=match xU rules g with
 | true=>bZ rules g g.length (c.1,jU g c.2)
 | false=>bZ rules g 1 c
theorem SH (rules:List Gr) (a:Nat):(aI rules a rules.length).length≤rules.length:=by
 unfold aI;rw [List.length_map];exact Nat.le_trans (List.length_filter_le _ _) (by simp)
theorem RH {rules:List Gr} (hr:rules.length≤128) (hf:∀ r∈rules,r.2.1.length+r.2.2.length≤16) (val:Mi) (q:Cs) (a:Nat):(iP rules val q a).1.1.length≤q.1.1.length+2177:=by
 have h1:=TL val hf (aI rules a rules.length) q.1;have h2:=SH rules a;show (nV _ _ _ _).1.length≤_;omega
theorem zI {rules:List Gr} (hr:rules.length≤128) (hf:∀ r∈rules,r.2.1.length+r.2.2.length≤16) (val:Mi):∀ (g:List Nat) (q:Cs),(g.foldl (iP rules val) q).1.1.length≤q.1.1.length+2177*g.length
 | [],q=>Nat.le_refl _
 | a::g,q=>by
   have h1:=zI hr hf val g (iP rules val q a);have h2:=RH hr hf val q a;rw [List.foldl_cons,List.length_cons];omega
theorem Ol {rules:List Gr} (hr:rules.length≤128) (hf:∀ r∈rules,r.2.1.length+r.2.2.length≤16) {g:List Nat} (hg:g.length≤64) (c:Cs):(oh rules g c).1.1.length≤c.1.1.length+139328:=by
 have:=zI hr hf c.2 g (c.1,[]);show (Aw rules g c).1.1.length≤_;unfold Aw;simp only at this;omega
theorem nC {rules:List Gr} (hr:rules.length≤128) (hf:∀ r∈rules,r.2.1.length+r.2.2.length≤16) {g:List Nat} (hg:g.length≤64) (c:Cs):∀ k,(bZ rules g k c).1.1.length≤c.1.1.length+139328*k
 | 0=>Nat.le_refl _
 | k+1=>by
   have h1:=nC hr hf hg c k;have h2:=Ol hr hf hg (bZ rules g k c);have h3:139328*(k+1)=139328*k+139328:=Nat.mul_succ _ _;rw [h3];exact Nat.le_trans h2 (by omega)
theorem O6 {rules:List Gr} (hr:rules.length≤128) (hf:∀ r∈rules,r.2.1.length+r.2.2.length≤16) {g:List Nat} (hg:g.length≤64) (c:Cs):(gV rules g c).1.1.length≤c.1.1.length+8916992:=by
 unfold gV;split
 ·have:=nC hr hf hg (c.1,jU g c.2) g.length;simp only at this;omega
 ·have:=nC hr hf hg c 1;omega
set_option maxRecDepth 10000 in
theorem Tryz.Zj (atoms:List Tm) (rules:List Gr) (n:Nat) (g:List Nat) (gs:List Gt) (val neg:Mi) (hn:n≤64) (hr:rules.length≤128) (hf:∀ r∈rules,r.2.1.length+r.2.2.length≤16) (hgp:g.Pairwise (·<·)) (hlt:∀ x∈g,x<n) (hgl:g.length≤64) (hg:gs.length≤800000000000) :
  aH Tryz.prog 46 [0,1,2,3] [.ptr 0 0,.d (.list (g.map enN))]
   [((0,0),.cell (.d (.list (atoms.map enT)))),((0,1),.cell (.d (.list (rules.map enG)))),((0,2),.cell (.d (.list ((hdM n rules rules.length).map fun r => .list (r.map enI))))),((0,3),.cell (.sl 1 3 0 gs.length)),((1,0),.arr 3 (gs.map dN)),((0,4),.cell (.map 2)),((2,0),.map (mpI val)),((0,5),.cell (.map 3)),((3,0),.map (mpI neg))] [4] []
   [((0,0),.cell (.d (.list (atoms.map enT)))),((0,1),.cell (.d (.list (rules.map enG)))),((0,2),.cell (.d (.list ((hdM n rules rules.length).map fun r => .list (r.map enI))))),((0,3),.cell (.sl 4 3 0 (gV rules g ((gs,neg),val)).1.1.length)),((4,0),.arr 3 ((gV rules g ((gs,neg),val)).1.1.map dN)),((0,4),.cell (.map 2)),((2,0),.map (mpI (gV rules g ((gs,neg),val)).2)),((0,5),.cell (.map 3)),((3,0),.map (mpI (gV rules g ((gs,neg),val)).1.2))]:=by
 refine aH.of_wp hT (nt:=_) (c:=_) Tryz.func46 rfl rfl rfl rfl (by kernel_rfl) rfl rfl ?_;intro w0 ok0 wr β0
 iterate 2 (refine gw rfl ?_;conv=>whnf)
 refine WP.join (α:=Nat×Mi) (fun x=>⟨[(0,.ptr 0 0),(1,.d (.list (g.map enN))),(4,.d (.int .i64 x.1))],[((0,0),some (.cell (.d (.list (atoms.map enT))))),((0,1),some (.cell (.d (.list (rules.map enG))))),((0,2),some (.cell (.d (.list ((hdM n rules rules.length).map fun r => .list (r.map enI)))))),((0,3),some (.cell (.sl 1 3 0 gs.length))),((1,0),some (.arr 3 (gs.map dN))),((0,4),some (.cell (.map 2))),((2,0),some (.map (mpI x.2))),((0,5),some (.cell (.map 3))),((3,0),some (.map (mpI neg)))],[0,1,2,3]⟩)
  (fun x=>gV rules g ((gs,neg),val)=bZ rules g x.1 ((gs,neg),x.2)∧x.1≤64) ?_ ?_
 ·repeat (refine gw rfl ?_;conv=>whnf)
  refine .inl ⟨_,Tryz.recursive atoms rules n g hn hr hgp hlt hgl hf,.inl rfl,?_⟩;conv=>whnf
  have hG:∀ b,xU rules g=b→gV rules g ((gs,neg),val)=match b with | true=>bZ rules g g.length ((gs,neg),jU g val) | false=>bZ rules g 1 ((gs,neg),val):=fun b e=>by subst e;rfl
  specialize hG _ rfl;cases hrec:xU rules g with
  | false=>
    rw [hrec] at hG;(conv=>whnf);(repeat (refine gw rfl ?_;conv=>whnf));refine ⟨(1,val),[(0,some 0),(1,some 1),(2,some 2),(3,some 3)],[],?_,hG,by omega⟩;((conv=>whnf);repeat (first | exact ⟨⟩ | (refine ⟨by first | rfl | (simp;done) | (simp;omega),?_⟩;conv=>whnf)))
  | true=>
    rw [hrec] at hG;(conv=>whnf);(repeat (refine gw rfl ?_;conv=>whnf));refine WP.loop (α:=Nat) (fun i=>⟨[(0,.ptr 0 0),(1,.d (.list (g.map enN))),(4,.d (.int .i64 g.length)),(24,.d (.list (g.map enN))),(25,.d (.int .i64 g.length)),(26,.d (.int .i64 i))],[((0,0),some (.cell (.d (.list (atoms.map enT))))),((0,1),some (.cell (.d (.list (rules.map enG))))),((0,2),some (.cell (.d (.list ((hdM n rules rules.length).map fun r => .list (r.map enI)))))),((0,3),some (.cell (.sl 1 3 0 gs.length))),((1,0),some (.arr 3 (gs.map dN))),((0,4),some (.cell (.map 2))),((2,0),some (.map (mpI (jU (g.take i) val)))),((0,5),some (.cell (.map 3))),((3,0),some (.map (mpI neg)))],[0,1,2,3]⟩)
     (fun i=>i≤g.length) (fun i=>g.length-i) 0 [(0,some 0),(1,some 1),(2,some 2),(3,some 3)] [] ?_ ?_ ?_
    ·rw [List.length_map];((conv=>whnf);repeat (first | exact ⟨⟩ | (refine ⟨by first | rfl | (simp;done) | (simp;omega),?_⟩;conv=>whnf)))
    ·exact Nat.zero_le _
    ·intro i hi;(repeat (refine gw rfl ?_;conv=>whnf));(split<;>rename_i hb<;>(try rw [hb])<;>(conv=>whnf))
     ·have hli:i<g.length:=(by simpa using hb);clear hb;(repeat (refine gw rfl ?_;conv=>whnf));refine ⟨by omega,_,ay hli,rfl,?_⟩;(conv=>whnf);(repeat (refine gw rfl ?_;conv=>whnf));refine ⟨gY rfl rfl _,?_⟩
      rw [show oC (mpI (jU (g.take i) val)) (enN g[i]) (.int .i64 0)=mpI (jU (g.take (i+1)) val) from by
       rw [show jU (g.take (i+1)) val=gU (jU (g.take i) val) (g[i]:Nat) 0 from bn _ _ _ hli]
       exact nH _ _ _]
      (conv=>whnf);(repeat (refine gw rfl ?_;conv=>whnf));refine ⟨by omega,?_⟩;(conv=>whnf);refine ⟨i+1,[(0,some 0),(1,some 1),(2,some 2),(3,some 3)],[],?_,by omega,by omega⟩;((conv=>whnf);repeat (first | exact ⟨⟩ | (refine ⟨by first | rfl | (simp;done) | (simp;omega),?_⟩;conv=>whnf)))
     ·have hie:i=g.length:=(by simp at hb;omega);subst hie;clear hb;rw [List.take_length];(repeat (refine gw rfl ?_;conv=>whnf));refine ⟨(g.length,jU g val),[(0,some 0),(1,some 1),(2,some 2),(3,some 3)],[],?_,hG,hgl⟩;((conv=>whnf);repeat (first | exact ⟨⟩ | (refine ⟨by first | rfl | (simp;done) | (simp;omega),?_⟩;conv=>whnf)))
 ·rintro ⟨R,val0⟩ ⟨hG,hR⟩;rw [hG];repeat (refine gw rfl ?_;conv=>whnf)
  refine WP.loop (α:=Nat) (fun i=>⟨[(0,.ptr 0 0),(1,.d (.list (g.map enN))),(36,.d (.int .i64 R)),(37,.d (.int .i64 i))],[((0,0),some (.cell (.d (.list (atoms.map enT))))),((0,1),some (.cell (.d (.list (rules.map enG))))),((0,2),some (.cell (.d (.list ((hdM n rules rules.length).map fun r => .list (r.map enI)))))),((0,3),some (.cell (.sl 4 3 0 (bZ rules g i ((gs,neg),val0)).1.1.length))),((4,0),some (.arr 3 ((bZ rules g i ((gs,neg),val0)).1.1.map dN))),((0,4),some (.cell (.map 2))),((2,0),some (.map (mpI (bZ rules g i ((gs,neg),val0)).2))),((0,5),some (.cell (.map 3))),((3,0),some (.map (mpI (bZ rules g i ((gs,neg),val0)).1.2)))],[0,1,2,3,4]⟩)
   (fun i=>i≤R) (fun i=>R-i) 0 [(0,some 0),(1,some 1),(2,some 2),(3,some 3),(4,some 1)] [] ?_ ?_ ?_
  ·((conv=>whnf);repeat (first | exact ⟨⟩ | (refine ⟨by first | rfl | (simp;done) | (simp;omega),?_⟩;conv=>whnf)))
  ·exact Nat.zero_le _
  ·intro i hi;have hc:=nC hr hf hgl ((gs,neg),val0) i;have hnext:bZ rules g (i+1) ((gs,neg),val0)=oh rules g (bZ rules g i ((gs,neg),val0)):=rfl;generalize hce:bZ rules g i ((gs,neg),val0)=c at hc hnext ⊢;simp only at hc;(repeat (refine gw rfl ?_;conv=>whnf));(split<;>rename_i hb<;>(try rw [hb])<;>(conv=>whnf))
   ·have hlR:i<R:=(by simpa using hb);clear hb;repeat (refine gw rfl ?_;conv=>whnf)
    refine WP.loop (α:=Nat) (fun k=>⟨[(0,.ptr 0 0),(1,.d (.list (g.map enN))),(36,.d (.int .i64 R)),(37,.d (.int .i64 i)),(7,.map 60),(40,.d (.list (g.map enN))),(41,.d (.int .i64 g.length)),(42,.d (.int .i64 k))],
      [((0,0),some (.cell (.d (.list (atoms.map enT))))),((0,1),some (.cell (.d (.list (rules.map enG))))),((0,2),some (.cell (.d (.list ((hdM n rules rules.length).map fun r => .list (r.map enI)))))),((0,3),some (.cell (.sl 4 3 0 ((g.take k).foldl (iP rules c.2) (c.1,[])).1.1.length))),((4,0),some (.arr 3 (((g.take k).foldl (iP rules c.2) (c.1,[])).1.1.map dN))),((0,4),some (.cell (.map 2))),((2,0),some (.map (mpI c.2))),((0,5),some (.cell (.map 3))),((3,0),some (.map (mpI ((g.take k).foldl (iP rules c.2) (c.1,[])).1.2))),((60,0),some (.map (mpI ((g.take k).foldl (iP rules c.2) (c.1,[])).2)))],[0,1,2,3,4,60]⟩)
     (fun k=>k≤g.length) (fun k=>g.length-k) 0 [(0,some 0),(1,some 1),(2,some 2),(3,some 3),(4,some 4),(60,some 39)] [] ?_ ?_ ?_
    ·rw [List.length_map];((conv=>whnf);repeat (first | exact ⟨⟩ | (refine ⟨by first | rfl | (simp;done) | (simp;omega),?_⟩;conv=>whnf)))
    ·exact Nat.zero_le _
    ·intro k hk;have hq:=zI hr hf c.2 (g.take k) (c.1,[]);have hq':=fun (h:k<g.length)=>bn (iP rules c.2) (c.1,[]) g h
     rw [List.length_take,Nat.min_eq_left hk] at hq;generalize hqe:(g.take k).foldl (iP rules c.2) (c.1,[])=q at hq hq' ⊢;simp only at hq;(repeat (refine gw rfl ?_;conv=>whnf));(split<;>rename_i hb<;>(try rw [hb])<;>(conv=>whnf))
     ·have hlk:k<g.length:=(by simpa using hb);clear hb;specialize hq' hlk;(repeat (refine gw rfl ?_;conv=>whnf));refine ⟨by omega,_,ay hlk,rfl,?_⟩;(conv=>whnf);(repeat (refine gw rfl ?_;conv=>whnf));refine .inr ⟨_,_,_,_,_,_,Tryz.aah rules n g[k] q.1.1 c.2 q.1.2 hn hr hf (hlt _ (List.getElem_mem hlk)) (by omega),[(0,0),(1,4),(2,2),(3,3),(4,61)],[61],rfl,rfl,?_⟩;(conv=>whnf);refine ⟨rfl,rfl,rfl,rfl,rfl,rfl,rfl,rfl,?_⟩;(conv=>whnf);refine ⟨gY rfl rfl _,?_⟩;rw [show oC (mpI q.2) (enN g[k]) (.int .i64 (uj c.2 rules (aI rules g[k] rules.length) (q.1.1,q.1.2)))=mpI (gU q.2 (g[k]:Nat) (uj c.2 rules (aI rules g[k] rules.length) q.1)) from nH _ _ _];(conv=>whnf);(repeat (refine gw rfl ?_;conv=>whnf));refine ⟨by omega,?_⟩;(conv=>whnf);refine ⟨k+1,[(0,some 0),(1,some 1),(2,some 2),(3,some 3),(4,some 61),(60,some 60)],[],?_,by omega,by omega⟩;rw [hq'];unfold iP;((conv=>whnf);repeat (first | exact ⟨⟩ | (refine ⟨by first | rfl | (simp;done) | (simp;omega),?_⟩;conv=>whnf)))
     ·have hke:k=g.length:=(by simp at hb;omega);subst hke;clear hb hq';rw [List.take_length] at hqe;have hqn:Aw rules g c=q:=hqe;have hrn:oh rules g c=(q.1,qP q.2 g c.2):=(by unfold oh;rw [hqn]);rw [hrn] at hnext;repeat (refine gw rfl ?_;conv=>whnf)
      refine WP.loop (α:=Nat) (fun k=>⟨[(0,.ptr 0 0),(1,.d (.list (g.map enN))),(36,.d (.int .i64 R)),(37,.d (.int .i64 i)),(7,.map 60),(52,.d (.list (g.map enN))),(53,.d (.int .i64 g.length)),(54,.d (.int .i64 k))],
        [((0,0),some (.cell (.d (.list (atoms.map enT))))),((0,1),some (.cell (.d (.list (rules.map enG))))),((0,2),some (.cell (.d (.list ((hdM n rules rules.length).map fun r => .list (r.map enI)))))),((0,3),some (.cell (.sl 4 3 0 q.1.1.length))),((4,0),some (.arr 3 (q.1.1.map dN))),((0,4),some (.cell (.map 2))),((2,0),some (.map (mpI (qP q.2 (g.take k) c.2)))),((0,5),some (.cell (.map 3))),((3,0),some (.map (mpI q.1.2))),((60,0),some (.map (mpI q.2)))],[0,1,2,3,4,60]⟩)
       (fun k=>k≤g.length) (fun k=>g.length-k) 0 [(0,some 0),(1,some 1),(2,some 2),(3,some 3),(4,some 4),(60,some 60)] [] ?_ ?_ ?_
      ·rw [List.length_map];((conv=>whnf);repeat (first | exact ⟨⟩ | (refine ⟨by first | rfl | (simp;done) | (simp;omega),?_⟩;conv=>whnf)))
      ·exact Nat.zero_le _
      ·intro k hk;(repeat (refine gw rfl ?_;conv=>whnf));(split<;>rename_i hb<;>(try rw [hb])<;>(conv=>whnf))
       ·have hlk:k<g.length:=(by simpa using hb);clear hb;(repeat (refine gw rfl ?_;conv=>whnf));refine ⟨by omega,_,ay hlk,rfl,?_⟩;(conv=>whnf);(repeat (refine gw rfl ?_;conv=>whnf));refine ⟨gY rfl rfl _,?_⟩;(conv=>whnf);rw [show Abs.look (mpI q.2) (enN g[k])=Abs.look (mpI q.2) (.int .i64 (g[k]:Nat)) from rfl,sU];refine ⟨gY rfl rfl _,?_⟩
        rw [show oC (mpI (qP q.2 (g.take k) c.2)) (enN g[k]) (.int .i64 (bI q.2 (g[k]:Nat)))=mpI (qP q.2 (g.take (k+1)) c.2) from by
         rw [show qP q.2 (g.take (k+1)) c.2=gU (qP q.2 (g.take k) c.2) (g[k]:Nat) (bI q.2 (g[k]:Nat)) from bn _ _ _ hlk]
         exact nH _ _ _]
        (conv=>whnf);(repeat (refine gw rfl ?_;conv=>whnf));refine ⟨by omega,?_⟩;(conv=>whnf);refine ⟨k+1,[(0,some 0),(1,some 1),(2,some 2),(3,some 3),(4,some 4),(60,some 60)],[],?_,by omega,by omega⟩;((conv=>whnf);repeat (first | exact ⟨⟩ | (refine ⟨by first | rfl | (simp;done) | (simp;omega),?_⟩;conv=>whnf)))
       ·have hke:k=g.length:=(by simp at hb;omega);subst hke;clear hb;rw [List.take_length];(repeat (refine gw rfl ?_;conv=>whnf));refine ⟨by omega,?_⟩;(conv=>whnf);refine ⟨i+1,[(0,some 0),(1,some 1),(2,some 2),(3,some 3),(4,some 4)],[],?_,by omega,by omega⟩;rw [hnext];((conv=>whnf);repeat (first | exact ⟨⟩ | (refine ⟨by first | rfl | (simp;done) | (simp;omega),?_⟩;conv=>whnf)))
   ·have hie:i=R:=(by simp at hb;omega);subst hie;clear hb;rw [hce];(repeat (refine gw rfl ?_;conv=>whnf));refine ⟨[(0,some 0),(1,some 1),(2,some 2),(3,some 3),(4,some 4)],[],?_,rfl⟩;((conv=>whnf);repeat (first | exact ⟨⟩ | (refine ⟨by first | rfl | (simp;done) | (simp;omega),?_⟩;conv=>whnf)))
end Go.Proofs.YtdonenoiehdahaaGreat
namespace Go.Own
mutual
def shT:Tm→Prop
 | .mk _ l=>l.length≤1000∧RJ l
def RJ:List Tm→Prop
 | []=>True
 | t::ts=>shT t∧RJ ts
end
theorem KN:∀ {l:List Tm},RJ l↔∀ x∈l,shT x
 | []=>by simp [RJ]
 | t::ts=>by rw [RJ,KN];simp
theorem BF {t:Tm}:shT t↔t.args.length≤1000∧∀ x∈t.args,shT x:=by
 obtain ⟨n,l⟩:=t;rw [shT,KN];exact Iff.rfl
theorem Qe {most:Int} {p:Tm→Int} (hp:∀ x,1≤p x):∀ (l:List Tm) (n:Int),1≤n→Cj most p n l≤most→n+l.length≤most∧∀ x∈l,p x≤most
 | [],n,h1,h2=>by
   unfold Cj at h2;exact ⟨by simpa using h2,fun x hx=>by cases hx⟩
 | x::l,n,h1,h2=>by
   unfold Cj at h2;split at h2
   ·omega
   ·have h3:=hp x;obtain ⟨h4,h5⟩:=Qe hp l _ (by omega) h2;refine ⟨by rw [List.length_cons];omega,fun y hy=>?_⟩;rcases List.mem_cons.1 hy with rfl | hy
    ·omega
    ·exact h5 y hy
theorem Le {most:Int} (hm:0≤most) (hb:most≤1000):∀ (d:Nat) (t:Tm),iy most d t≤most→shT t
 | 0,t,h=>by unfold iy at h;omega
 | d+1,t,h=>by
   unfold iy at h;obtain ⟨h1,h2⟩:=Qe (fun x=>(qp hm d x).1) t.args 1 (Int.le_refl _) h;exact BF.2 ⟨by omega,fun x hx=>Le hm hb d x (h2 x hx)⟩
theorem N9 {most:Int} (hm:0≤most) (hb:most≤1000) {l:List Tm} (h:jk most l=true):∀ x∈l,shT x:=fun x hx=>by
 unfold jk at h;rw [Bool.and_eq_true] at h;exact Le hm hb _ x (of_decide_eq_true (List.all_eq_true.1 h.2 x hx))
end Go.Own
namespace Go.Proofs.YtdonenoiehdahaaGreat
open Go Go.Abs Go.Own
attribute [local irreducible] WP
def ZI (t:Tm):Prop:=shT t→Pure Tryz.prog 86 [tD t.name t.args] [tD t.name t.args]
theorem Tryz.VX:∀ t:Tm,ZI t:=Tm.ind fun t ih hsh=>by
 obtain ⟨h1,h2⟩:=BF.1 hsh;refine Pure.of_wp hT (nt:=_) (c:=_) Tryz.func86 rfl rfl rfl rfl (by kernel_rfl) ?_;intro w0 ok0 β0;repeat (refine gw rfl ?_;conv=>whnf)
 refine ⟨rfl,?_⟩;conv=>whnf
 repeat (refine gw rfl ?_;conv=>whnf)
 refine WP.loop (α:=Nat) (fun i=>⟨[(2,.ptr 2 0),(3,.ptr 3 0),(10,.d (.list (t.args.map enT))),(11,.d (.int .i64 t.args.length)),(12,.d (.int .i64 i))],
   [((2,0),some (.cell (.d (.str [])))),((2,1),some (.cell (.d (.list [])))),((3,0),some (.cell (.d (.str t.name)))),((3,1),some (.cell (.sl 50 2 0 i))),((50,0),some (.arr 2 ((t.args.take i).map enT)))],[2,3,50]⟩)
  (fun i=>i≤t.args.length) (fun i=>t.args.length-i) 0 [(2,some 2),(3,some 3),(50,none)] [] ?_ ?_ ?_
 ·rw [List.length_map];((conv=>whnf);repeat (first | exact ⟨⟩ | (refine ⟨by first | rfl | (simp;done) | (simp;omega),?_⟩;conv=>whnf)))
  trace_state
 ·exact Nat.zero_le _
 ·intro i hi;repeat (refine gw rfl ?_;conv=>whnf)
  (split<;>rename_i hb<;>(try rw [hb])<;>(conv=>whnf))
  ·have hlt:i<t.args.length:=(by simpa using hb);clear hb;(repeat (refine gw rfl ?_;conv=>whnf));refine ⟨by omega,_,dB hlt,rfl,?_⟩;(conv=>whnf);(repeat (refine gw rfl ?_;conv=>whnf));have hx:=ih t.args[i] (List.getElem_mem hlt) (h2 _ (List.getElem_mem hlt));refine .inl ⟨_,hx,.inl rfl,?_⟩;conv=>whnf
   (refine ⟨rfl,?_⟩;(conv=>whnf);refine ⟨_,(congrArg (List.take _) List.drop_zero).trans (List.take_of_length_le (by first | (simp;done) | (simp;omega))),by first | (simp;done) | (simp;omega),?_⟩;(conv=>whnf);refine ⟨_,rfl,Nat.le_refl _,?_⟩;(conv=>whnf);refine ⟨by show (_+1)*40≤_;first | (simp;done) | (simp;omega),?_⟩;(conv=>whnf))
   (repeat (refine gw rfl ?_;conv=>whnf));refine ⟨by omega,?_⟩;(conv=>whnf);refine ⟨i+1,[(2,some 2),(3,some 3),(50,some 21)],[],?_,by omega,by omega⟩;rw [List.take_succ_eq_append_getElem hlt,List.map_append,List.map_singleton,bQ];((conv=>whnf);repeat (first | exact ⟨⟩ | (refine ⟨by first | rfl | (simp;done) | (simp;omega),?_⟩;conv=>whnf)))
  ·have hie:i=t.args.length:=(by simp at hb;omega);subst hie;clear hb;rw [List.take_length];refine WP.weak (l':=⟨[(2,.ptr 2 0),(3,.ptr 3 0)],[((2,0),some (.cell (.d (.str [])))),((2,1),some (.cell (.d (.list [])))),((3,0),some (.cell (.d (.str t.name)))),((3,1),some (.cell (.d (.list (t.args.map enT)))))],[2,3]⟩) [(2,some 2),(3,some 3)] [50] ?_ ?_
   ·((conv=>whnf);repeat (first | exact ⟨⟩ | (refine ⟨by first | rfl | (simp;done) | (simp;omega),?_⟩;conv=>whnf)));refine ⟨t.args.map enT,by rw [List.drop_zero];exact List.take_of_length_le (by simp),by simp,rfl,?_⟩;((conv=>whnf);repeat (first | exact ⟨⟩ | (refine ⟨by first | rfl | (simp;done) | (simp;omega),?_⟩;conv=>whnf)))
   (repeat (refine gw rfl ?_;conv=>whnf));rfl
end Go.Proofs.YtdonenoiehdahaaGreat
namespace Go.Own
def jW (name:Str) (role:Option Tm) (t:Tm):Option Tm:=match t.name==name with
 | false=>none
 | true=>match role with
   | none=>(match t.args with | [x]=>some x | _=>none)
   | some r=>(match t.args with | [a,b]=>(match aS a r==0 with | true=>some b | false=>none) | _=>none)
theorem Ob {name:Str} {role:Option Tm} {t:Tm} (h:(t.name==name)=false):jW name role t=none:=by unfold jW;rw [h]
theorem YO {name:Str} {t:Tm} (h:(t.name==name)=true):jW name none t=match t.args with | [x]=>some x | _=>none:=by unfold jW;rw [h]
theorem YN {name:Str} {r t:Tm} (h:(t.name==name)=true):jW name (some r) t=match t.args with | [a,b]=>(match aS a r==0 with | true=>some b | false=>none) | _=>none:=by unfold jW;rw [h]
def fK (name:Str) (role:Option Tm) (atoms:List Tm):List Tm:=atoms.filterMap (jW name role)
theorem RP {name:Str} {role:Option Tm} {l:List Tm} {i:Nat} (h:i<l.length):fK name role (l.take (i+1))=fK name role (l.take i)++(jW name role l[i]).toList:=by
 unfold fK;rw [List.take_succ_eq_append_getElem h,List.filterMap_append];cases hs:jW name role l[i] with
 | none=>rw [List.filterMap_cons_none hs];rfl
 | some x=>rw [List.filterMap_cons_some hs];rfl
theorem lV {name:Str} {role:Option Tm} {l:List Tm}:(fK name role l).length≤l.length:=List.length_filterMap_le _ _
end Go.Own
namespace Go.Proofs.YtdonenoiehdahaaGreat
open Go Go.Abs Go.Own
attribute [local irreducible] WP
def ZN:Option Tm→D
 | none => .vI
 | some r => .ref [.str r.name,.list (r.args.map enT)] 0
set_option maxRecDepth 10000 in
theorem Tryz.second (atoms:List Tm) (rules:List Gr) (name:Str) (role:Option Tm) (hn:atoms.length≤1000) (hok:∀ x∈atoms,okT x) (hsh:∀ x∈atoms,shT x) (hro:∀ r,role=some r→okT r) :
  Pure Tryz.prog 44 [gD atoms rules,.str name,ZN role] [.list ((fK name role atoms).map enT)]:=by
 refine Pure.of_wp hT (nt:=_) (c:=_) Tryz.func44 rfl rfl rfl rfl (by kernel_rfl) ?_;intro w0 ok0 β0;repeat (refine gw rfl ?_;conv=>whnf)
 refine WP.loop (α:=Nat) (fun i=>⟨[(1,.d (.str name)),(2,.d (ZN role)),(7,.sl 50 2 0 (fK name role (atoms.take i)).length),(11,.d (.list (atoms.map enT))),(12,.d (.int .i64 atoms.length)),(13,.d (.int .i64 i))],
   [((50,0),some (.arr 2 ((fK name role (atoms.take i)).map enT)))],[50]⟩)
  (fun i=>i≤atoms.length) (fun i=>atoms.length-i) 0 [(50,none)] [] ?_ ?_ ?_
 ·rw [List.length_map];((conv=>whnf);repeat (first | exact ⟨⟩ | (refine ⟨by first | rfl | (simp;done) | (simp;omega),?_⟩;conv=>whnf)))
 ·exact Nat.zero_le _
 ·intro i hi;have hSl:=lV (name:=name) (role:=role) (l:=atoms.take i);have hSn:=fun (h:i<atoms.length)=>RP (name:=name) (role:=role) h
  rw [List.length_take,Nat.min_eq_left hi] at hSl;generalize hSe:fK name role (atoms.take i)=S at hSl hSn ⊢;repeat (refine gw rfl ?_;conv=>whnf)
  (split<;>rename_i hb<;>(try rw [hb])<;>(conv=>whnf))
  ·have hlt:i<atoms.length:=(by simpa using hb);clear hb;specialize hSn hlt;have okx:=hok _ (List.getElem_mem hlt);have shx:=hsh _ (List.getElem_mem hlt);have hga:=dB hlt;generalize atoms[i]=t at hSn okx shx hga;(repeat (refine gw rfl ?_;conv=>whnf));refine ⟨by omega,_,hga,rfl,?_⟩;(conv=>whnf);(repeat (refine gw rfl ?_;conv=>whnf));cases hnm:t.name==name with
   | false=>
     have hsec:=Ob (role:=role) hnm;(conv=>whnf);(repeat (refine gw rfl ?_;conv=>whnf));refine ⟨by omega,?_⟩;(conv=>whnf);refine ⟨i+1,[(50,some 50)],[],?_,by omega,by omega⟩;rw [hSn,hsec,Option.toList_none,List.append_nil];((conv=>whnf);repeat (first | exact ⟨⟩ | (refine ⟨by first | rfl | (simp;done) | (simp;omega),?_⟩;conv=>whnf)))
   | true=>
     (conv=>whnf);cases role with
     | none=>
       have hsec:=YO hnm;(repeat (refine gw rfl ?_;conv=>whnf));generalize hl:t.args=l at hsec
       match l,hl with
       | [],hl=>
         (conv=>whnf);(repeat (refine gw rfl ?_;conv=>whnf));refine ⟨by omega,?_⟩;(conv=>whnf);refine ⟨i+1,[(50,some 50)],[],?_,by omega,by omega⟩;rw [hSn,hsec,Option.toList_none,List.append_nil];((conv=>whnf);repeat (first | exact ⟨⟩ | (refine ⟨by first | rfl | (simp;done) | (simp;omega),?_⟩;conv=>whnf)))
       | [x],hl=>
         obtain ⟨_,hshx⟩:=BF.1 shx;rw [hl] at hshx;(conv=>whnf);(repeat (refine gw rfl ?_;conv=>whnf));refine ⟨by omega,_,show _=some (tD x.name x.args) by rw [← bQ];rfl,rfl,?_⟩;(conv=>whnf);refine .inl ⟨_,Tryz.VX x (hshx x (by simp)),.inl rfl,?_⟩;conv=>whnf
         (refine ⟨rfl,?_⟩;(conv=>whnf);refine ⟨_,(congrArg (List.take _) List.drop_zero).trans (List.take_of_length_le (by first | (simp;done) | (simp;omega))),by first | (simp;done) | (simp;omega),?_⟩;(conv=>whnf);refine ⟨_,rfl,Nat.le_refl _,?_⟩;(conv=>whnf);refine ⟨by show (_+1)*40≤_;first | (simp;done) | (simp;omega),?_⟩;(conv=>whnf))
         (repeat (refine gw rfl ?_;conv=>whnf));refine ⟨by omega,?_⟩;(conv=>whnf);refine ⟨i+1,[(50,some 38)],[],?_,by omega,by omega⟩;rw [hSn,hsec,Option.toList_some,List.map_append,List.map_singleton,bQ,List.length_append,List.length_singleton];((conv=>whnf);repeat (first | exact ⟨⟩ | (refine ⟨by first | rfl | (simp;done) | (simp;omega),?_⟩;conv=>whnf)))
       | x::y::l,hl=>
         rw [show (((List.map enT (x::y::l)).length:Int)==1)=false from by simp;omega];(conv=>whnf);(repeat (refine gw rfl ?_;conv=>whnf));refine ⟨by omega,?_⟩;(conv=>whnf);refine ⟨i+1,[(50,some 50)],[],?_,by omega,by omega⟩;rw [hSn,hsec,Option.toList_none,List.append_nil];((conv=>whnf);repeat (first | exact ⟨⟩ | (refine ⟨by first | rfl | (simp;done) | (simp;omega),?_⟩;conv=>whnf)))
     | some r=>
       have hsec:=YN (r:=r) hnm;have hr:=hro r rfl;(repeat (refine gw rfl ?_;conv=>whnf));generalize hl:t.args=l at hsec
       match l,hl with
       | [],hl=>
         (conv=>whnf);(repeat (refine gw rfl ?_;conv=>whnf));refine ⟨by omega,?_⟩;(conv=>whnf);refine ⟨i+1,[(50,some 50)],[],?_,by omega,by omega⟩;rw [hSn,hsec,Option.toList_none,List.append_nil];((conv=>whnf);repeat (first | exact ⟨⟩ | (refine ⟨by first | rfl | (simp;done) | (simp;omega),?_⟩;conv=>whnf)))
       | [a],hl=>
         (conv=>whnf);(repeat (refine gw rfl ?_;conv=>whnf));refine ⟨by omega,?_⟩;(conv=>whnf);refine ⟨i+1,[(50,some 50)],[],?_,by omega,by omega⟩;rw [hSn,hsec,Option.toList_none,List.append_nil];((conv=>whnf);repeat (first | exact ⟨⟩ | (refine ⟨by first | rfl | (simp;done) | (simp;omega),?_⟩;conv=>whnf)))
       | a::b::c::l,hl=>
         rw [show (((List.map enT (a::b::c::l)).length:Int)==2)=false from by simp;omega];(conv=>whnf);(repeat (refine gw rfl ?_;conv=>whnf));refine ⟨by omega,?_⟩;(conv=>whnf);refine ⟨i+1,[(50,some 50)],[],?_,by omega,by omega⟩;rw [hSn,hsec,Option.toList_none,List.append_nil];((conv=>whnf);repeat (first | exact ⟨⟩ | (refine ⟨by first | rfl | (simp;done) | (simp;omega),?_⟩;conv=>whnf)))
       | [a,b],hl=>
         have hshx:=BF.1 shx;obtain ⟨_,hokx⟩:=aW.1 okx;rw [hl] at hshx hokx;(conv=>whnf);refine ⟨by omega,_,show _=some (tD a.name a.args) by rw [← bQ];rfl,rfl,?_⟩;(conv=>whnf);refine .inl ⟨_,Tryz.compare a r (hokx a (by simp)) hr,.inl rfl,?_⟩;(conv=>whnf);simp only at hsec;cases hc:aS a r==0 with
         | false=>
           rw [hc] at hsec;(conv=>whnf);(repeat (refine gw rfl ?_;conv=>whnf));refine ⟨by omega,?_⟩;(conv=>whnf);refine ⟨i+1,[(50,some 50)],[],?_,by omega,by omega⟩;rw [hSn,hsec,Option.toList_none,List.append_nil];((conv=>whnf);repeat (first | exact ⟨⟩ | (refine ⟨by first | rfl | (simp;done) | (simp;omega),?_⟩;conv=>whnf)))
         | true=>
           rw [hc] at hsec;(conv=>whnf);(repeat (refine gw rfl ?_;conv=>whnf));refine ⟨by omega,_,show (([a,b]:List Tm).map enT)[Int.toNat 1]?=some (tD b.name b.args) by rw [← bQ];rfl,rfl,?_⟩;(conv=>whnf);refine .inl ⟨_,Tryz.VX b (hshx.2 b (by simp)),.inl rfl,?_⟩;conv=>whnf
           (refine ⟨rfl,?_⟩;(conv=>whnf);refine ⟨_,(congrArg (List.take _) List.drop_zero).trans (List.take_of_length_le (by first | (simp;done) | (simp;omega))),by first | (simp;done) | (simp;omega),?_⟩;(conv=>whnf);refine ⟨_,rfl,Nat.le_refl _,?_⟩;(conv=>whnf);refine ⟨by show (_+1)*40≤_;first | (simp;done) | (simp;omega),?_⟩;(conv=>whnf))
           (repeat (refine gw rfl ?_;conv=>whnf));refine ⟨by omega,?_⟩;(conv=>whnf);refine ⟨i+1,[(50,some 66)],[],?_,by omega,by omega⟩;rw [hSn,hsec,Option.toList_some,List.map_append,List.map_singleton,bQ,List.length_append,List.length_singleton];((conv=>whnf);repeat (first | exact ⟨⟩ | (refine ⟨by first | rfl | (simp;done) | (simp;omega),?_⟩;conv=>whnf)))
  ·have hie:i=atoms.length:=(by simp at hb;omega);subst hie;clear hb hSn;rw [List.take_length] at hSe;rw [hSe];refine WP.weak (l':=⟨[(7,.d (.list (S.map enT)))],[],[]⟩) [] [50] ?_ ?_
   ·((conv=>whnf);repeat (first | exact ⟨⟩ | (refine ⟨by first | rfl | (simp;done) | (simp;omega),?_⟩;conv=>whnf)));refine ⟨S.map enT,by rw [List.drop_zero];exact List.take_of_length_le (by simp),by simp,rfl,?_⟩;((conv=>whnf);repeat (first | exact ⟨⟩ | (refine ⟨by first | rfl | (simp;done) | (simp;omega),?_⟩;conv=>whnf)))
   repeat (refine gw rfl ?_;conv=>whnf)
theorem Tryz.findF (t u:Tm) (ht:okT t) (hu:okT u):Pure Tryz.prog 125 [tD t.name t.args,.ref [.str u.name,.list (u.args.map enT)] 0] [.bool (decide (aS t u=0))]:=by
 refine Pure.of_wp hT (nt:=_) (c:=_) Tryz.func125 rfl rfl rfl rfl (by kernel_rfl) ?_;intro w0 ok0 β0;repeat (refine gw rfl ?_;conv=>whnf)
 refine .inl ⟨_,Tryz.compare t u ht hu,.inl rfl,?_⟩;conv=>whnf
 repeat (refine gw rfl ?_;conv=>whnf)
 rfl
theorem Tryz.find (atoms:List Tm) (rules:List Gr) (u:Tm) (hl:atoms.length≤1000000) (hok:∀ x∈atoms,okT x) (hu:okT u) :
  Pure Tryz.prog 88 [gD atoms rules,tD u.name u.args] [.int .i64 (dM u 0 atoms)]:=by
 refine Pure.of_wp hT (nt:=_) (c:=_) Tryz.func88 rfl rfl rfl rfl (by kernel_rfl) ?_;intro w0 ok0 β0;repeat (refine gw rfl ?_;conv=>whnf)
 refine .inl ⟨_,Tryz.Va 125 atoms u (fun t ht=>Tryz.findF t u ht hu) hl hok,.inl rfl,?_⟩;conv=>whnf
 repeat (refine gw rfl ?_;conv=>whnf)
def dV (roles:List Tm) (i:Nat):Tm:=roles.getD i (.mk [] [])
def zZ (atoms:List Tm) (c:Cs) (p:Tm×Nat):Cs:=((c.1.1++[(2,((p.2:Nat):Int),[])],c.1.2),gU c.2 (dM (.mk eY [p.1]) 0 atoms) (c.1.1.length:Nat))
def zX (atoms roles:List Tm) (c:Cs) (p:In×Nat):Cs:=((c.1.1++[(3,((p.2:Nat):Int),[])],c.1.2),gU c.2 (dM (.mk bC [dV roles p.1.1,p.1.2]) 0 atoms) (c.1.1.length:Nat))
def gG (v:Mi) (p:Tm×Nat):Mi:=match iF p.1&&!(jv v (p.2:Nat)).isSome with
 | true=>gU v (p.2:Nat) 0
 | false=>v
def BK (atoms bases:List Tm) (c:Cs):Cs:=bases.zipIdx.foldl (zZ atoms) c
def gq (atoms roles bases:List Tm) (ins:List In) (c:Cs):Cs:=ins.zipIdx.foldl (zX atoms roles) (BK atoms bases c)
def fA (atoms roles bases:List Tm) (ins:List In) (c:Cs):Cs:=((gq atoms roles bases ins c).1,atoms.zipIdx.foldl gG (gq atoms roles bases ins c).2)
theorem tq (atoms:List Tm):∀ (l:List (Tm×Nat)) (c:Cs),(l.foldl (zZ atoms) c).1.1.length=c.1.1.length+l.length
 | [],c=>rfl
 | p::l,c=>by
   rw [List.foldl_cons,tq atoms l,List.length_cons];show (c.1.1++_).length+_=_;rw [List.length_append];simp;omega
theorem sZ (atoms roles:List Tm):∀ (l:List (In×Nat)) (c:Cs),(l.foldl (zX atoms roles) c).1.1.length=c.1.1.length+l.length
 | [],c=>rfl
 | p::l,c=>by
   rw [List.foldl_cons,sZ atoms roles l,List.length_cons];show (c.1.1++_).length+_=_;rw [List.length_append];simp;omega
theorem AB (atoms roles bases:List Tm) (ins:List In) (c:Cs):(fA atoms roles bases ins c).1.1.length=c.1.1.length+bases.length+ins.length:=by
 show (gq atoms roles bases ins c).1.1.length=_;unfold gq BK;rw [sZ,tq,List.length_zipIdx,List.length_zipIdx]
set_option maxRecDepth 10000 in
theorem Tryz.XB (atoms roles bases:List Tm) (ins:List In) (rules:List Gr) (gs:List Gt) (val neg:Mi) (hid:Bool) (hn:atoms.length≤64) (hok:∀ x∈atoms,okT x) (hro:∀ x∈roles,okT x) (hba:∀ x∈bases,okT x) (hin:∀ x∈ins,okT x.2∧x.1<roles.length) (hbl:bases.length≤1000) (hil:ins.length≤100000) (hg:gs.length≤1000) :
  aH Tryz.prog 45 [0,1,2] [.ptr 0 0,.agg [.aG,.d (.list (roles.map enT)),.d (.list (bases.map enT)),.d (.list (ins.map iq)),.aG,.aG,.aG,.aG,.aG,.d (.int .i64 0),.d (.bool hid)]]
   [((0,0),(.cell (.d (.list (atoms.map enT))))),((0,1),(.cell (.d (.list (rules.map enG))))),((0,3),(.cell (.sl 1 3 0 gs.length))),((1,0),(.arr 3 (gs.map dN))),((0,4),(.cell (.map 2))),((2,0),(.map (mpI val)))] [4] []
   [((0,0),(.cell (.d (.list (atoms.map enT))))),((0,1),(.cell (.d (.list (rules.map enG))))),((0,3),(.cell (.sl 4 3 0 (fA atoms roles bases ins ((gs,neg),val)).1.1.length))),((4,0),(.arr 3 ((fA atoms roles bases ins ((gs,neg),val)).1.1.map dN))),((0,4),(.cell (.map 2))),((2,0),(.map (mpI (fA atoms roles bases ins ((gs,neg),val)).2)))]:=by
 refine aH.of_wp hT (nt:=_) (c:=_) Tryz.func45 rfl rfl rfl rfl (by kernel_rfl) rfl rfl ?_;intro w0 ok0 wr β0;repeat (refine gw rfl ?_;conv=>whnf)
 refine WP.loop (α:=Nat) (fun i=>⟨[(0,.ptr 0 0),(3,(.d (.ref [.list [],.list (roles.map enT),.list (bases.map enT),.list (ins.map iq),.list [],.list [],.list [],.list [],.list [],.int .i64 0,.bool hid] 0))),(13,.d (.list (bases.map enT))),(14,.d (.int .i64 bases.length)),(15,.d (.int .i64 i))],[((0,0),some (.cell (.d (.list (atoms.map enT))))),((0,1),some (.cell (.d (.list (rules.map enG))))),((0,3),some (.cell (.sl 4 3 0 ((bases.zipIdx.take i).foldl (zZ atoms) ((gs,neg),val)).1.1.length))),((4,0),some (.arr 3 (((bases.zipIdx.take i).foldl (zZ atoms) ((gs,neg),val)).1.1.map dN))),((0,4),some (.cell (.map 2))),((2,0),some (.map (mpI ((bases.zipIdx.take i).foldl (zZ atoms) ((gs,neg),val)).2)))],[0,1,2,4]⟩)
  (fun i=>i≤bases.length) (fun i=>bases.length-i) 0 [(0,some 0),(1,some 1),(2,some 2),(4,some 1)] [] ?_ ?_ ?_
 ·rw [List.length_map];((conv=>whnf);repeat (first | exact ⟨⟩ | (refine ⟨by first | rfl | (simp;done) | (simp;omega),?_⟩;conv=>whnf)))
 ·exact Nat.zero_le _
 ·intro i hi;have hcl:=tq atoms (bases.zipIdx.take i) ((gs,neg),val);rw [List.length_take,List.length_zipIdx,Nat.min_eq_left hi] at hcl;have hcs:=fun (h:i<bases.length)=>bn (zZ atoms) ((gs,neg),val) bases.zipIdx (i:=i) (by rw [List.length_zipIdx];exact h)
  generalize hce:(bases.zipIdx.take i).foldl (zZ atoms) ((gs,neg),val)=c at hcl hcs ⊢;simp only at hcl;repeat (refine gw rfl ?_;conv=>whnf)
  (split<;>rename_i hb<;>(try rw [hb])<;>(conv=>whnf))
  ·have hlt:i<bases.length:=(by simpa using hb);clear hb;specialize hcs hlt;rw [List.getElem_zipIdx,Nat.zero_add] at hcs;(repeat (refine gw rfl ?_;conv=>whnf));refine ⟨by omega,_,dB hlt,rfl,?_⟩;(conv=>whnf);refine W2 hT hM [29] ?_;(conv=>whnf);refine ⟨rfl,?_⟩;(conv=>whnf);refine ⟨rfl,?_⟩;(conv=>whnf);refine ⟨rfl,?_⟩;(conv=>whnf);rw [show D.agg [D.str bases[i].name,D.list (List.map enT bases[i].args)]=enT bases[i] from (bQ _).symm];refine .inl ⟨_,Tryz.find atoms rules (.mk eY [bases[i]]) (by omega) hok (aW.2 ⟨by simp [Tm.args],fun x hx=>by simp [Tm.args] at hx;rw [hx];exact hba _ (List.getElem_mem hlt)⟩),.inl rfl,?_⟩;(conv=>whnf);refine .inr ⟨_,_,_,_,_,_,Tryz.addN c.1.1 2 (i:Nat) (by omega),[(0,0),(1,4),(2,60)],[60],rfl,rfl,?_⟩;(conv=>whnf);refine ⟨rfl,rfl,?_⟩;(conv=>whnf);refine ⟨gY rfl rfl _,?_⟩;rw [nH];(conv=>whnf);(repeat (refine gw rfl ?_;conv=>whnf));refine ⟨by omega,?_⟩;(conv=>whnf);refine ⟨i+1,[(0,some 0),(1,some 1),(2,some 2),(4,some 60)],[],?_,by omega,by omega⟩;rw [hcs];unfold zZ;rw [List.length_append,List.length_singleton];((conv=>whnf);repeat (first | exact ⟨⟩ | (refine ⟨by first | rfl | (simp;done) | (simp;omega),?_⟩;conv=>whnf)))
  ·have hie:i=bases.length:=(by simp at hb;omega);subst hie;clear hb hcs;rw [List.take_of_length_le (by rw [List.length_zipIdx];exact Nat.le_refl _)] at hce;have hc1:BK atoms bases ((gs,neg),val)=c:=hce;(repeat (refine gw rfl ?_;conv=>whnf));refine WP.loop (α:=Nat) (fun i=>⟨[(0,.ptr 0 0),(3,(.d (.ref [.list [],.list (roles.map enT),.list (bases.map enT),.list (ins.map iq),.list [],.list [],.list [],.list [],.list [],.int .i64 0,.bool hid] 0))),(37,.d (.list (ins.map iq))),(38,.d (.int .i64 ins.length)),(39,.d (.int .i64 i))],[((0,0),some (.cell (.d (.list (atoms.map enT))))),((0,1),some (.cell (.d (.list (rules.map enG))))),((0,3),some (.cell (.sl 4 3 0 ((ins.zipIdx.take i).foldl (zX atoms roles) c).1.1.length))),((4,0),some (.arr 3 (((ins.zipIdx.take i).foldl (zX atoms roles) c).1.1.map dN))),((0,4),some (.cell (.map 2))),((2,0),some (.map (mpI ((ins.zipIdx.take i).foldl (zX atoms roles) c).2)))],[0,1,2,4]⟩)
    (fun i=>i≤ins.length) (fun i=>ins.length-i) 0 [(0,some 0),(1,some 1),(2,some 2),(4,some 4)] [] ?_ ?_ ?_
   ·rw [List.length_map];((conv=>whnf);repeat (first | exact ⟨⟩ | (refine ⟨by first | rfl | (simp;done) | (simp;omega),?_⟩;conv=>whnf)))
   ·exact Nat.zero_le _
   ·intro i hi;have hql:=sZ atoms roles (ins.zipIdx.take i) c;rw [List.length_take,List.length_zipIdx,Nat.min_eq_left hi] at hql;have hqs:=fun (h:i<ins.length)=>bn (zX atoms roles) c ins.zipIdx (i:=i) (by rw [List.length_zipIdx];exact h)
    generalize hqe:(ins.zipIdx.take i).foldl (zX atoms roles) c=q at hql hqs ⊢;(repeat (refine gw rfl ?_;conv=>whnf));(split<;>rename_i hb<;>(try rw [hb])<;>(conv=>whnf))
    ·have hlt:i<ins.length:=(by simpa using hb);clear hb;specialize hqs hlt;rw [List.getElem_zipIdx,Nat.zero_add] at hqs;obtain ⟨hio,hir⟩:=hin ins[i] (List.getElem_mem hlt);have hgi:(ins.map iq)[((i:Nat):Int).toNat]?=some (iq ins[i]):=ay hlt;generalize ins[i]=x at hqs hio hir hgi;have hri:dV roles x.1=roles[x.1]:=(by unfold dV;simp [hir]);(repeat (refine gw rfl ?_;conv=>whnf));refine ⟨by omega,_,hgi,rfl,?_⟩;(conv=>whnf);refine W2 hT hM [60] ?_;(conv=>whnf);refine ⟨by omega,_,dB hir,rfl,?_⟩;(conv=>whnf);refine ⟨rfl,?_⟩;(conv=>whnf);refine ⟨rfl,?_⟩;(conv=>whnf);refine ⟨rfl,?_⟩;(conv=>whnf);refine ⟨rfl,?_⟩;(conv=>whnf);have hE:∀ y:Tm,D.agg [D.str y.name,D.list (List.map enT y.args)]=enT y:=fun y=>(bQ y).symm
     rw [hE x.2,hE roles[x.1]]
     refine .inl ⟨_,Tryz.find atoms rules (.mk bC [roles[x.1],x.2]) (by omega) hok (aW.2 ⟨by simp [Tm.args],fun y hy=>by
      simp only [Tm.args,List.mem_cons,List.not_mem_nil,or_false] at hy;rcases hy with rfl | rfl
      ·exact hro _ (List.getElem_mem hir)
      ·exact hio⟩),.inl rfl,?_⟩
     (conv=>whnf);refine .inr ⟨_,_,_,_,_,_,Tryz.addN q.1.1 3 (i:Nat) (by omega),[(0,0),(1,4),(2,60)],[60],rfl,rfl,?_⟩;(conv=>whnf);refine ⟨rfl,rfl,?_⟩;(conv=>whnf);refine ⟨gY rfl rfl _,?_⟩;rw [nH];(conv=>whnf);(repeat (refine gw rfl ?_;conv=>whnf));refine ⟨by omega,?_⟩;(conv=>whnf);refine ⟨i+1,[(0,some 0),(1,some 1),(2,some 2),(4,some 60)],[],?_,by omega,by omega⟩;rw [hqs];unfold zX;rw [hri,List.length_append,List.length_singleton];((conv=>whnf);repeat (first | exact ⟨⟩ | (refine ⟨by first | rfl | (simp;done) | (simp;omega),?_⟩;conv=>whnf)))
    ·have hie:i=ins.length:=(by simp at hb;omega);subst hie;clear hb hqs;rw [List.take_of_length_le (by rw [List.length_zipIdx];exact Nat.le_refl _)] at hqe;have hq:gq atoms roles bases ins ((gs,neg),val)=q:=(by unfold gq;rw [hc1];exact hqe);have hF:fA atoms roles bases ins ((gs,neg),val)=(q.1,atoms.zipIdx.foldl gG q.2):=(by unfold fA;rw [hq]);rw [hF];(repeat (refine gw rfl ?_;conv=>whnf));refine WP.loop (α:=Nat) (fun i=>⟨[(0,.ptr 0 0),(3,(.d (.ref [.list [],.list (roles.map enT),.list (bases.map enT),.list (ins.map iq),.list [],.list [],.list [],.list [],.list [],.int .i64 0,.bool hid] 0))),(71,.d (.list (atoms.map enT))),(72,.d (.int .i64 atoms.length)),(73,.d (.int .i64 i))],[((0,0),some (.cell (.d (.list (atoms.map enT))))),((0,1),some (.cell (.d (.list (rules.map enG))))),((0,3),some (.cell (.sl 4 3 0 q.1.1.length))),((4,0),some (.arr 3 (q.1.1.map dN))),((0,4),some (.cell (.map 2))),((2,0),some (.map (mpI ((atoms.zipIdx.take i).foldl gG q.2))))],[0,1,2,4]⟩)
      (fun i=>i≤atoms.length) (fun i=>atoms.length-i) 0 [(0,some 0),(1,some 1),(2,some 2),(4,some 4)] [] ?_ ?_ ?_
     ·rw [List.length_map];((conv=>whnf);repeat (first | exact ⟨⟩ | (refine ⟨by first | rfl | (simp;done) | (simp;omega),?_⟩;conv=>whnf)))
     ·exact Nat.zero_le _
     ·intro i hi;have hvs:=fun (h:i<atoms.length)=>bn gG q.2 atoms.zipIdx (i:=i) (by rw [List.length_zipIdx];exact h)
      generalize hve:(atoms.zipIdx.take i).foldl gG q.2=v at hvs ⊢;(repeat (refine gw rfl ?_;conv=>whnf));(split<;>rename_i hb<;>(try rw [hb])<;>(conv=>whnf))
      ·have hlt:i<atoms.length:=(by simpa using hb);clear hb;specialize hvs hlt;rw [List.getElem_zipIdx,Nat.zero_add] at hvs;have hga:=dB hlt;generalize atoms[i]=t at hvs hga;(repeat (refine gw rfl ?_;conv=>whnf));refine ⟨by omega,_,hga,rfl,?_⟩;(conv=>whnf);(repeat (refine gw rfl ?_;conv=>whnf));refine ⟨gY rfl rfl _,?_⟩;rw [yg];(conv=>whnf);(repeat (refine gw rfl ?_;conv=>whnf));refine .inl ⟨_,Tryz.given t,.inl rfl,?_⟩;(conv=>whnf);have hag:∀ b,(iF t&&!(jv v ((i:Nat):Int)).isSome)=b→gG v (t,i)=match b with | true=>gU v (i:Nat) 0 | false=>v:=fun b e=>by subst e;rfl
       cases hgv:iF t with
       | false=>
         have hG:gG v (t,i)=v:=hag false (by rw [hgv];rfl);(conv=>whnf);(repeat (refine gw rfl ?_;conv=>whnf));refine ⟨by omega,?_⟩;(conv=>whnf);refine ⟨i+1,[(0,some 0),(1,some 1),(2,some 2),(4,some 4)],[],?_,by omega,by omega⟩;rw [hvs,hG];((conv=>whnf);repeat (first | exact ⟨⟩ | (refine ⟨by first | rfl | (simp;done) | (simp;omega),?_⟩;conv=>whnf)))
       | true=>
         cases hvi:jv v ((i:Nat):Int) with
         | some y=>
           have hG:gG v (t,i)=v:=hag false (by rw [hgv,hvi];rfl);(conv=>whnf);(repeat (refine gw rfl ?_;conv=>whnf));refine ⟨by omega,?_⟩;(conv=>whnf);refine ⟨i+1,[(0,some 0),(1,some 1),(2,some 2),(4,some 4)],[],?_,by omega,by omega⟩;rw [hvs,hG];((conv=>whnf);repeat (first | exact ⟨⟩ | (refine ⟨by first | rfl | (simp;done) | (simp;omega),?_⟩;conv=>whnf)))
         | none=>
           have hG:gG v (t,i)=gU v (i:Nat) 0:=hag true (by rw [hgv,hvi];rfl);(conv=>whnf);(repeat (refine gw rfl ?_;conv=>whnf));refine ⟨gY rfl rfl _,?_⟩;rw [nH];(conv=>whnf);(repeat (refine gw rfl ?_;conv=>whnf));refine ⟨by omega,?_⟩;(conv=>whnf);refine ⟨i+1,[(0,some 0),(1,some 1),(2,some 2),(4,some 4)],[],?_,by omega,by omega⟩;rw [hvs,hG];((conv=>whnf);repeat (first | exact ⟨⟩ | (refine ⟨by first | rfl | (simp;done) | (simp;omega),?_⟩;conv=>whnf)))
      ·have hie:i=atoms.length:=(by simp at hb;omega);subst hie;clear hb hvs;rw [List.take_of_length_le (by rw [List.length_zipIdx];exact Nat.le_refl _)] at hve;rw [hve];(repeat (refine gw rfl ?_;conv=>whnf));refine ⟨[(0,some 0),(1,some 1),(2,some 2),(4,some 4)],[],?_,rfl⟩;((conv=>whnf);repeat (first | exact ⟨⟩ | (refine ⟨by first | rfl | (simp;done) | (simp;omega),?_⟩;conv=>whnf)))
def ofV (atoms:List Tm) (val:Mi) (name:Str) (args:List Tm):Int:=match decide (dM (.mk name args) 0 atoms<0) with
 | true=>0
 | false=>bI val (dM (.mk name args) 0 atoms)
theorem Tryz.ofH (atoms:List Tm) (rules:List Gr) (val:Mi) (name:Str) (args:List Tm) (hn:atoms.length≤1000000) (hok:∀ x∈atoms,okT x) (hl:args.length≤10) (ha:∀ x∈args,okT x) :
  aH Tryz.prog 90 [0,1,2] [.d (.str name),.d (.list (args.map enT)),.ptr 1 0]
   [((0,0),.cell (.d (.list (atoms.map enT)))),((0,1),.cell (.d (.list (rules.map enG)))),((0,4),.cell (.map 2)),((2,0),.map (mpI val)),((1,0),.cell (.ptr 0 0))] [] [.d (.int .i64 (ofV atoms val name args))]
   [((0,0),.cell (.d (.list (atoms.map enT)))),((0,1),.cell (.d (.list (rules.map enG)))),((0,4),.cell (.map 2)),((2,0),.map (mpI val)),((1,0),.cell (.ptr 0 0))]:=by
 have hu:okT (.mk name args):=aW.2 ⟨by show args.length≤_;omega,ha⟩;refine aH.of_wp hT (nt:=_) (c:=_) Tryz.func90 rfl rfl rfl rfl (by kernel_rfl) rfl rfl ?_;intro w0 ok0 wr β0;repeat (refine gw rfl ?_;conv=>whnf)
 refine ⟨rfl,?_⟩;conv=>whnf
 refine ⟨rfl,?_⟩;conv=>whnf
 refine .inl ⟨_,Tryz.find atoms rules (.mk name args) hn hok hu,.inl rfl,?_⟩;conv=>whnf
 repeat (refine gw rfl ?_;conv=>whnf)
 unfold ofV;cases hd:decide (dM (.mk name args) 0 atoms<0) with
 | true=>
   (conv=>whnf);(repeat (refine gw rfl ?_;conv=>whnf));refine ⟨[(0,some 0),(1,some 1),(2,some 2)],[],?_,rfl⟩;((conv=>whnf);repeat (first | exact ⟨⟩ | (refine ⟨by first | rfl | (simp;done) | (simp;omega),?_⟩;conv=>whnf)))
 | false=>
   (conv=>whnf);(repeat (refine gw rfl ?_;conv=>whnf));refine ⟨gY rfl rfl _,?_⟩;(conv=>whnf);rw [sU];(repeat (refine gw rfl ?_;conv=>whnf));refine ⟨[(0,some 0),(1,some 1),(2,some 2)],[],?_,rfl⟩;((conv=>whnf);repeat (first | exact ⟨⟩ | (refine ⟨by first | rfl | (simp;done) | (simp;omega),?_⟩;conv=>whnf)))
theorem Tryz.ofN (atoms:List Tm) (rules:List Gr) (val:Mi) (name:Str) (hn:atoms.length≤1000000) (hok:∀ x∈atoms,okT x) :
  aH Tryz.prog 90 [0,1,2] [.d (.str name),.aG,.ptr 1 0]
   [((0,0),.cell (.d (.list (atoms.map enT)))),((0,1),.cell (.d (.list (rules.map enG)))),((0,4),.cell (.map 2)),((2,0),.map (mpI val)),((1,0),.cell (.ptr 0 0))] [] [.d (.int .i64 (ofV atoms val name []))]
   [((0,0),.cell (.d (.list (atoms.map enT)))),((0,1),.cell (.d (.list (rules.map enG)))),((0,4),.cell (.map 2)),((2,0),.map (mpI val)),((1,0),.cell (.ptr 0 0))]:=by
 have hu:okT (.mk name []):=aW.2 ⟨by show ([]:List Tm).length≤_;simp,fun x hx=>by cases hx⟩;refine aH.of_wp hT (nt:=_) (c:=_) Tryz.func90 rfl rfl rfl rfl (by kernel_rfl) rfl rfl ?_;intro w0 ok0 wr β0;repeat (refine gw rfl ?_;conv=>whnf)
 refine ⟨rfl,?_⟩;conv=>whnf
 refine .inl ⟨_,Tryz.find atoms rules (.mk name []) hn hok hu,.inl rfl,?_⟩;conv=>whnf
 repeat (refine gw rfl ?_;conv=>whnf)
 unfold ofV;cases hd:decide (dM (.mk name []) 0 atoms<0) with
 | true=>
   (conv=>whnf);(repeat (refine gw rfl ?_;conv=>whnf));refine ⟨[(0,some 0),(1,some 1),(2,some 2)],[],?_,rfl⟩;((conv=>whnf);repeat (first | exact ⟨⟩ | (refine ⟨by first | rfl | (simp;done) | (simp;omega),?_⟩;conv=>whnf)))
 | false=>
   (conv=>whnf);(repeat (refine gw rfl ?_;conv=>whnf));refine ⟨gY rfl rfl _,?_⟩;(conv=>whnf);rw [sU];(repeat (refine gw rfl ?_;conv=>whnf));refine ⟨[(0,some 0),(1,some 1),(2,some 2)],[],?_,rfl⟩;((conv=>whnf);repeat (first | exact ⟨⟩ | (refine ⟨by first | rfl | (simp;done) | (simp;omega),?_⟩;conv=>whnf)))
end Go.Proofs.YtdonenoiehdahaaGreat
