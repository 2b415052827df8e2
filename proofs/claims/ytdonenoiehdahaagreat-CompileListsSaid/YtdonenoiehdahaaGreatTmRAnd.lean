/- Walks: what the atoms of a ground description depend on. -/
import Derived.Test.YtdonenoiehdahaaGreatTmGAnd
set_option linter.all false
namespace Go.Proofs.YtdonenoiehdahaaGreat
open Go Go.Abs Go.Own
attribute [local irreducible] WP
def dN (m:Own.Rows):List (List D):=m.map fun r=>r.map enI
theorem oD {m:Own.Rows} {i:Nat} {r:List Int} (h:m[i]?=some r):(dN m)[i]?=some (r.map enI):=by unfold dN;rw [List.getElem?_map,h];rfl
theorem lq {m:Own.Rows} {i:Nat} (h:i<m.length):m[i]?=some (rowOf m (i:Nat)):=by
 unfold rowOf;rw [show ((i:Nat):Int).toNat=i by omega,List.getElem?_eq_getElem h];rfl
theorem zy (n:Nat) (rules:List Gr):List.replicate n ([]:List D)=dN (aA n (rules.take 0)):=by simp [dN,aA]
theorem U4 (m:Own.Rows) (r:Gr) (i:Int):(rowOf (iq m r) i).length≤max (rowOf m i).length ((rowOf m r.1).length+r.2.1.length+r.2.2.length):=by
 unfold rowOf iq
 by_cases e:r.1.toNat=i.toNat
 ·by_cases hl:r.1.toNat<m.length
  ·rw [← e,List.getElem?_set_self hl]
   simp only [Option.getD_some,List.length_append,rowOf]
   omega
  ·rw [List.set_eq_of_length_le (by omega)];omega
 ·rw [List.getElem?_set_ne e];omega
theorem pR {n k:Nat} {rules:List Gr} (h:∀ r∈rules,r.2.1.length+r.2.2.length≤k) (i:Int):(rowOf (aA n rules) i).length≤rules.length*k:=by
 have key:∀ (l:List Gr) (m:Own.Rows) (b:Nat),(∀ r∈l,r.2.1.length+r.2.2.length≤k)→(∀ i,(rowOf m i).length≤b)→∀ i,(rowOf (l.foldl iq m) i).length≤b+l.length*k:=fun l=>by
  induction l with
  | nil=>intro m b _ hb i;have:=hb i;simpa using this
  | cons r l ih=>
    intro m b hl hb i
    rw [List.foldl_cons]
    have:=ih (iq m r) (b+k) (fun r' hr'=>hl r' (by simp [hr'])) (fun j=>by
     have h1:=U4 m r j
     have h2:=hb j
     have h3:=hb r.1
     have h4:=hl r (by simp)
     omega) i
    rw [List.length_cons,Nat.succ_mul]
    omega
 have:=key rules (List.replicate n []) 0 h (fun i=>by
  unfold rowOf
  rw [List.getElem?_replicate]
  split<;>simp) i
 unfold aA;omega
theorem Bv (m:Own.Rows) (r:Gr) (h:0≤r.1):(dN m).set r.1.toNat ((rowOf m (r.1.toNat:Nat)).map enI++r.2.1.map enI++r.2.2.map enI)=dN (iq m r):=by
 unfold dN iq
 rw [List.map_set,List.map_append,List.map_append,show ((r.1.toNat:Nat):Int)=r.1 by omega]
noncomputable def pO (n:Nat) (m:Own.Rows) (a:Nat):List (List D):=(List.range n).map fun k=>if k<a then (sF n m (k:Nat)).map D.bool else []
theorem BL (n:Nat) (m:Own.Rows):List.replicate n ([]:List D)=pO n m 0:=by
 unfold pO
 refine List.ext_getElem (by simp) fun i h1 h2=>by simp
theorem FM (n:Nat) (m:Own.Rows):(pO n m n).map D.list=(cO n m).map fun r => .list (r.map D.bool):=by
 unfold pO cO
 rw [List.map_map,List.map_map]
 refine List.map_congr_left fun k hk=>?_
 simp [List.mem_range.1 hk]
theorem dJ (n:Nat) (m:Own.Rows) (a:Nat):(pO n m a).length=n:=by simp [pO]
theorem FK {n:Nat} {m:Own.Rows} {a:Nat} (h:a<n):(pO n m a).set a ((sF n m (a:Nat)).map D.bool)=pO n m (a+1):=by
 refine List.ext_getElem (by simp [pO]) fun i h1 h2=>?_
 rw [List.getElem_set]
 split
 ·rename_i e;subst e;simp [pO]
 ·rename_i e
  simp only [pO,List.getElem_map,List.getElem_range]
  by_cases hi:i<a
  ·rw [if_pos hi,if_pos (by omega)]
  ·rw [if_neg hi,if_neg (by omega)]
theorem fE (m:Own.Rows):(dN m).length=m.length:=by simp [dN]
theorem FD {m:Own.Rows} {j:Nat} (h:j<m.length):(dN m).set j ((rowOf m (j:Nat)).map enI)=dN m:=by
 refine List.ext_getElem? fun i=>?_
 by_cases e:j=i
 ·subst e
  rw [List.getElem?_set_self (by rw [fE];exact h),oD (lq h)]
 ·rw [List.getElem?_set_ne e]
structure eH (n:Nat) (rules:List Gr):Prop where
 head:∀ r∈rules,0≤r.1∧r.1<n
 body:∀ r∈rules,(∀ x∈r.2.1,0≤x∧x<(n:Int))∧∀ x∈r.2.2,0≤x∧x<(n:Int)
theorem Tryz.dependencies (atoms:List Tm) (rules:List Gr) (hi':eH atoms.length rules) (hn:atoms.length≤64) (hr:rules.length≤128) (hf:∀ r∈rules,r.2.1.length+r.2.2.length≤16) :
  Pure Tryz.prog 41 [gD atoms rules] [.list ((cO atoms.length (aA atoms.length rules)).map fun r => .list (r.map D.bool))]:=by
 obtain ⟨n,hnn⟩:∃ n,atoms.length=n:=⟨_,rfl⟩
 rw [hnn] at hi' hn ⊢
 refine Pure.of_wp hT (nt:=_) (c:=_) Tryz.func41 rfl rfl rfl rfl (by kernel_rfl) ?_
 intro w0 ok0 β0
 refine W1 ?_
 refine W2 hT hM [] ?_;conv=>whnf
 refine W1 ?_
 refine W2 hT hM [13] ?_;conv=>whnf
 rw [List.length_map,hnn]
 refine ⟨⟨by omega,by omega,by omega,by show ((24:Nat):Int)*(n:Int)≤281474976710656;omega⟩,?_⟩
 rw [Int.toNat_natCast,zy n rules]
 conv=>whnf
 repeat (refine gw rfl ?_;conv=>whnf)
 have hE:∀ i j,i≤rules.length→(rowOf (aA n (rules.take i)) j).length≤2048:=fun i j hi=>by
  have h1:=pR (n:=n) (rules:=rules.take i) (k:=16) (fun r hr'=>by have:=hf r (List.mem_of_mem_take hr');omega) j
  rw [List.length_take] at h1
  have h2:min i rules.length*16≤128*16:=Nat.mul_le_mul_right _ (by omega)
  omega
 have hcell:∀ (l:List Int) (y:D),y∈l.map enI→y.cells.length=1:=fun l y hy=>by
  obtain ⟨x,_,rfl⟩:=List.mem_map.1 hy;rfl
 have hlen0:∀ i,(dN (aA n (rules.take i))).length=n:=fun i=>by unfold dN;rw [List.length_map,bJ]
 refine WP.loop (α:=Nat) (fun i=>⟨[(1,.d (.ref [.list (atoms.map enT),.list (rules.map enG)] 0)),(3,.rsl 13 n),(15,.d (.list (rules.map enG))),(16,.d (.int .i64 rules.length)),(17,.d (.int .i64 i))],[((13,0),some (.rows 1 (dN (aA n (rules.take i))) none))],[13]⟩)
  (fun i=>i≤rules.length) (fun i=>rules.length-i) 0 [(13,some 13)] [] ?_ ?_ ?_
 ·((conv=>whnf);repeat (first | exact ⟨⟩ | (refine ⟨by first | rfl | (simp;done) | (simp;omega),?_⟩;conv=>whnf)))
 ·exact Nat.zero_le _
 ·intro i hi
  repeat (refine gw rfl ?_;conv=>whnf)
  (split<;>rename_i hb<;>(try rw [hb])<;>(conv=>whnf))
  ·have hlt:i<rules.length:=by simpa using hb
   clear hb
   repeat (refine gw rfl ?_;conv=>whnf)
   refine ⟨by omega,_,ak hlt,rfl,?_⟩
   conv=>whnf
   have hm:=hi'.head rules[i] (List.getElem_mem hlt)
   have hrow:=lq (m:=aA n (rules.take i)) (i:=rules[i].1.toNat) (by rw [bJ];omega)
   refine W2 hT hM [] ?_
   conv=>whnf
   refine ⟨⟨hm.1,hm.2⟩,?_⟩
   conv=>whnf
   refine ⟨_,oD hrow,?_⟩
   conv=>whnf
   refine ⟨_,by rw [List.drop_zero,List.take_length],by omega,?_⟩
   conv=>whnf
   refine ⟨hcell _,?_⟩
   conv=>whnf
   have hlt1:=hE i rules[i].1.toNat (by omega)
   have hlt2:=hf rules[i] (List.getElem_mem hlt)
   refine ⟨by show _*8≤_;rw [List.length_map,List.length_map];omega,?_⟩
   conv=>whnf
   refine ⟨_,by rw [List.drop_zero,← List.length_append,List.take_length],by rw [List.length_append];omega,?_⟩
   conv=>whnf
   refine ⟨hcell _,?_⟩
   conv=>whnf
   refine ⟨by show _*8≤_;rw [List.length_append,List.length_map,List.length_map,List.length_map];omega,?_⟩
   conv=>whnf
   refine ⟨⟨hm.1,hm.2⟩,?_⟩
   conv=>whnf
   refine ⟨⟨by rw [hlen0];omega,rfl⟩,_,by rw [List.drop_zero,← List.length_append,List.take_length],by simp only [List.length_append];omega,?_⟩
   conv=>whnf
   rw [Bv _ _ hm.1,← BX hlt]
   repeat (refine gw rfl ?_;conv=>whnf)
   refine ⟨by omega,?_⟩
   conv=>whnf
   refine ⟨i+1,[(13,some 13)],[],?_,by omega,by omega⟩
   ((conv=>whnf);repeat (first | exact ⟨⟩ | (refine ⟨by first | rfl | (simp;done) | (simp;omega),?_⟩;conv=>whnf)))
  ·have:i=rules.length:=by simp at hb;omega
   subst this
   rw [List.take_length]
   clear hb
   refine W6 ?_;conv=>whnf
   refine W1 ?_
   refine W2 hT hM [40] ?_;conv=>whnf
   rw [List.length_map,hnn]
   refine ⟨⟨by omega,by omega,by omega,by show ((24:Nat):Int)*(n:Int)≤281474976710656;omega⟩,?_⟩
   rw [Int.toNat_natCast,BL n (aA n rules)]
   conv=>whnf
   repeat (refine gw rfl ?_;conv=>whnf)
   refine WP.loop (α:=Nat) (fun a=>⟨[(1,.d (.ref [.list (atoms.map enT),.list (rules.map enG)] 0)),(3,.rsl 13 n),(6,.rsl 40 n),(42,.d (.int .i64 n)),(43,.d (.int .i64 a))],[((13,0),some (.rows 1 (dN (aA n rules)) none)),((40,0),some (.rows 1 (pO n (aA n rules) a) none))],[13,40]⟩)
    (fun a=>a≤n) (fun a=>n-a) 0 [(13,some 13),(40,some 40)] [] ?_ ?_ ?_
   ·((conv=>whnf);repeat (first | exact ⟨⟩ | (refine ⟨by first | rfl | (simp;done) | (simp;omega),?_⟩;conv=>whnf)))
   ·exact Nat.zero_le _
   ·intro a ha
    repeat (refine gw rfl ?_;conv=>whnf)
    (split<;>rename_i hb<;>(try rw [hb])<;>(conv=>whnf))
    ·have hlt:a<n:=by simpa using hb
     clear hb
     repeat (refine gw rfl ?_;conv=>whnf)
     rw [List.length_map,hnn]
     refine ⟨⟨by omega,by omega,by omega,by show ((1:Nat):Int)*(n:Int)≤281474976710656;omega⟩,?_⟩
     rw [Int.toNat_natCast]
     conv=>whnf
     refine ⟨rfl,?_⟩
     conv=>whnf
     refine ⟨by omega,?_⟩
     rw [Int.toNat_natCast]
     conv=>whnf
     refine ⟨⟨by rw [dJ];omega,trivial⟩,_,by rw [List.drop_zero,List.take_of_length_le (by simp)],by simp,?_⟩
     conv=>whnf
     repeat (refine gw rfl ?_;conv=>whnf)
     refine ⟨by omega,?_⟩
     rw [Int.toNat_natCast]
     conv=>whnf
     refine ⟨_,oD (lq (by rw [bJ];omega)),?_⟩
     conv=>whnf
     refine .inr ⟨_,_,_,_,_,_,Tryz.XU (rowOf (aA n rules) (a:Nat)) (by have:=hE rules.length (a:Nat) (Nat.le_refl _);rw [List.take_length] at this;omega),[(0,56),(1,57)],[57],by rw [List.length_map];rfl,rfl,?_⟩
     conv=>whnf
     refine ⟨rfl,?_⟩
     conv=>whnf
     have hNX:Own.RowsIn n (aA n rules):=J3 hi'.body
     have hrl:∀ j:Int,(rowOf (aA n rules) j).length≤2048:=fun j=>by
      have:=hE rules.length j (Nat.le_refl _);rwa [List.take_length] at this
     rw [show List.replicate n (D.bool false)=(List.replicate n false).map D.bool by simp]
     refine W3 ?_
     refine WP.loop (α:=List Bool×List Int×Nat×Nat) (fun y=>⟨[(1,.d (.ref [.list (atoms.map enT),.list (rules.map enG)] 0)),(3,.rsl 13 n),(6,.rsl 40 n),(7,.d (.int .i64 a)),(8,.sl 57 1 0 y.2.2.1),(42,.d (.int .i64 n)),(43,.d (.int .i64 a))],
       [((13,0),some (.rows 1 (dN (aA n rules)) (some (y.2.2.2,56)))),((56,0),some (.arr 1 ((rowOf (aA n rules) y.2.2.2).map enI))),((40,0),some (.rows 1 ((pO n (aA n rules) a).set a (y.1.map D.bool)) none)),((57,0),some (.arr 1 (y.2.1.map enI)))],[13,56,40,57]⟩)
      (fun y=>Dfs (aA n rules) n a y.1 (y.2.1.take y.2.2.1)∧y.2.2.1≤y.2.1.length∧y.2.2.1+bZ y.1*2048≤(n+1)*2048∧y.2.2.2<n) (fun y=>bZ y.1*4096+y.2.2.1)
      (List.replicate n false,rowOf (aA n rules) (a:Nat),(rowOf (aA n rules) (a:Nat)).length,a) [(13,some 13),(56,some 56),(40,some 40),(57,some 57)] [] ?_ ?_ ?_
     ·((conv=>whnf);repeat (first | exact ⟨⟩ | (refine ⟨by first | rfl | (simp;done) | (simp;omega),?_⟩;conv=>whnf)))
     ·refine ⟨by rw [List.take_length];exact Dfs.start _ _ _,Nat.le_refl _,?_,hlt⟩
      have:=hrl (a:Nat)
      simp only [dL];omega
     ·rintro ⟨s,xs,k,j⟩ ⟨hd,hk,hsz,hj⟩
      have hd':=hd
      dsimp only at hd hk hsz hj ⊢
      repeat (refine gw rfl ?_;conv=>whnf)
      (split<;>rename_i hb<;>(try rw [hb])<;>(conv=>whnf))
      ·have hk0:0<k:=by simpa using hb
       clear hb
       have hx:xs[k-1]?=some xs[k-1]:=List.getElem?_eq_getElem (by omega)
       have htk:xs.take k=xs.take (k-1)++[xs[k-1]]:=by
        have:=List.take_succ_eq_append_getElem (l:=xs) (i:=k-1) (by omega)
        rwa [Nat.sub_add_cancel hk0] at this
       generalize hxe:xs[k-1]=x at hx htk
       have hxm:x∈xs.take k:=by rw [htk];simp
       have hxr:=(hd.todo x hxm).inR hNX
       refine W5 ?_;conv=>whnf
       repeat (refine gw rfl ?_;conv=>whnf)
       refine ⟨by omega,?_⟩
       rw [show ((k:Nat):Int)-1=((k-1:Nat):Int) by omega]
       conv=>whnf
       refine ⟨by omega,?_⟩
       rw [Int.toNat_natCast]
       conv=>whnf
       refine ⟨_,by rw [Nat.zero_add,List.getElem?_map,hx];rfl,?_⟩
       conv=>whnf
       repeat (refine gw rfl ?_;conv=>whnf)
       refine ⟨by omega,?_⟩
       rw [show ((k:Nat):Int)-1=((k-1:Nat):Int) by omega]
       conv=>whnf
       refine ⟨by simp only [Option.getD_none,Option.getD_some];omega,?_⟩
       conv=>whnf
       refine WP.weak (l':=⟨[(1,.d (.ref [.list (atoms.map enT),.list (rules.map enG)] 0)),(3,.rsl 13 n),(6,.rsl 40 n),(7,.d (.int .i64 a)),(8,.sl 57 1 0 (k-1)),(9,.d (.int .i64 x)),(42,.d (.int .i64 n)),(43,.d (.int .i64 a))],
        [((13,0),some (.rows 1 (dN (aA n rules)) (some (j,56)))),((56,0),some (.arr 1 ((rowOf (aA n rules) j).map enI))),((40,0),some (.rows 1 ((pO n (aA n rules) a).set a (s.map D.bool)) none)),((57,0),some (.arr 1 (xs.map enI)))],[13,56,40,57]⟩)
        [(13,some 13),(56,some 56),(40,some 40),(57,some 57)] [] ?_ ?_
       ·((conv=>whnf);repeat (first | exact ⟨⟩ | (refine ⟨by first | rfl | (simp;done) | (simp;omega),?_⟩;conv=>whnf)))
       repeat (refine gw rfl ?_;conv=>whnf)
       refine ⟨by omega,?_⟩
       rw [Int.toNat_natCast]
       conv=>whnf
       refine ⟨_,List.getElem?_set_self (by rw [dJ];omega),?_⟩
       conv=>whnf
       refine ⟨by rw [List.length_map,hd.len];omega,?_⟩
       conv=>whnf
       obtain ⟨b,hsx⟩:∃ b,s[x.toNat]?=some b:=⟨_,List.getElem?_eq_getElem (by rw [hd.len];omega)⟩
       refine ⟨_,by rw [Nat.zero_add,List.getElem?_map,hsx];rfl,?_⟩
       conv=>whnf
       have hl1:∀ y∈xs.take (k-1),y∈xs.take k:=fun y hy=>by rw [htk];simp [hy]
       have hl2:∀ y∈xs.take k,y=x∨y∈xs.take (k-1):=fun y hy=>by
        rw [htk] at hy
        simpa [or_comm] using hy
       refine W7 ?_ rfl;conv=>whnf
       cases b with
       | true=>
         conv=>whnf
         refine WP.back 40 75 ?_;conv=>whnf
         refine ⟨by rw [List.length_set,dJ];omega,?_⟩
         conv=>whnf
         rw [List.set_set]
         repeat (refine gw rfl ?_;conv=>whnf)
         refine ⟨(s,xs,k-1,j),[(13,some 13),(56,some 56),(40,some 40),(57,some 57)],[],?_,⟨hd.skip hl1 hl2 hsx,by dsimp only;omega,by dsimp only;omega,hj⟩,by dsimp only;omega⟩
         ((conv=>whnf);repeat (first | exact ⟨⟩ | (refine ⟨by first | rfl | (simp;done) | (simp;omega),?_⟩;conv=>whnf)))
       | false=>
         conv=>whnf
         refine W1 ?_
         refine W2 hT hM [] ?_;conv=>whnf
         refine ⟨by omega,?_⟩
         rw [Int.toNat_natCast]
         conv=>whnf
         refine ⟨⟨rfl,by rw [List.length_set,dJ];omega⟩,?_⟩
         conv=>whnf
         refine ⟨by rw [List.length_map,hd.len];omega,?_⟩
         conv=>whnf
         refine ⟨rfl,_,by rw [Nat.zero_add,List.getElem?_map,hsx];rfl,?_⟩
         conv=>whnf
         refine .inl ⟨rfl,rfl,?_⟩
         rw [Nat.zero_add]
         conv=>whnf
         refine WP.back 40 75 ?_;conv=>whnf
         refine ⟨by rw [List.length_set,dJ];omega,?_⟩
         conv=>whnf
         refine WP.back 13 56 ?_;conv=>whnf
         refine ⟨by rw [fE,bJ];exact hj,?_⟩
         conv=>whnf
         rw [FD (by rw [bJ];exact hj),List.set_set,show (s.map D.bool).set x.toNat (D.bool true)=(s.set x.toNat true).map D.bool by rw [List.map_set]]
         refine WP.weak (l':=⟨[(1,.d (.ref [.list (atoms.map enT),.list (rules.map enG)] 0)),(3,.rsl 13 n),(6,.rsl 40 n),(7,.d (.int .i64 a)),(8,.sl 57 1 0 (k-1)),(9,.d (.int .i64 x)),(42,.d (.int .i64 n)),(43,.d (.int .i64 a))],
          [((13,0),some (.rows 1 (dN (aA n rules)) none)),((40,0),some (.rows 1 ((pO n (aA n rules) a).set a ((s.set x.toNat true).map D.bool)) none)),((57,0),some (.arr 1 (xs.map enI)))],[13,40,57]⟩)
          [(13,some 13),(40,some 40),(57,some 57)] [] ?_ ?_
         ·((conv=>whnf);repeat (first | exact ⟨⟩ | (refine ⟨by first | rfl | (simp;done) | (simp;omega),?_⟩;conv=>whnf)))
         refine W2 hT hM [] ?_;conv=>whnf
         refine ⟨by omega,?_⟩
         conv=>whnf
         refine ⟨_,oD (lq (by rw [bJ];omega)),?_⟩
         conv=>whnf
         refine ⟨_,by rw [List.drop_zero,← List.map_take],by rw [List.length_map];omega,?_⟩
         conv=>whnf
         refine ⟨_,by rw [List.drop_zero,List.take_length],by omega,?_⟩
         conv=>whnf
         have hfl:=vZ hsx
         have hrx:=hrl (x.toNat:Nat)
         have hsum:k-1+(rowOf (aA n rules) (x.toNat:Nat)).length+bZ (s.set x.toNat true)*2048≤(n+1)*2048:=by omega
         refine ⟨by show _*8≤_;simp only [List.length_map,List.length_take];omega,?_⟩
         rw [show (List.map enI (xs.take (k-1))).length+(List.map enI (rowOf (aA n rules) (x.toNat:Nat))).length=k-1+(rowOf (aA n rules) (x.toNat:Nat)).length by simp only [List.length_map,List.length_take];omega,← List.map_append]
         conv=>whnf
         refine ⟨(s.set x.toNat true,xs.take (k-1)++rowOf (aA n rules) (x.toNat:Nat),k-1+(rowOf (aA n rules) (x.toNat:Nat)).length,x.toNat),[(13,some 13),(56,some 90),(40,some 40),(57,some 91)],[],?_,⟨?_,?_,hsum,by dsimp only;omega⟩,?_⟩
         ·((conv=>whnf);repeat (first | exact ⟨⟩ | (refine ⟨by first | rfl | (simp;done) | (simp;omega),?_⟩;conv=>whnf)))
         ·dsimp only
          rw [List.take_of_length_le (by rw [List.length_append,List.length_take];omega),show ((x.toNat:Nat):Int)=x by omega]
          exact hd.visit hl1 hl2 hxm hxr
         ·dsimp only
          rw [List.length_append,List.length_take];omega
         ·dsimp only;omega
      ·have hk0:k=0:=by simpa using hb
       subst hk0
       clear hb
       rw [List.take_zero] at hd
       have hs:=hd.done hNX
       refine W6 ?_;conv=>whnf
       refine WP.back 13 56 ?_;conv=>whnf
       refine ⟨by rw [fE,bJ];exact hj,?_⟩
       conv=>whnf
       rw [FD (by rw [bJ];exact hj),hs,FK hlt]
       conv=>whnf
       repeat (refine gw rfl ?_;conv=>whnf)
       refine ⟨by omega,?_⟩
       conv=>whnf
       refine ⟨a+1,[(13,some 13),(40,some 40)],[],?_,by omega,by omega⟩
       ((conv=>whnf);repeat (first | exact ⟨⟩ | (refine ⟨by first | rfl | (simp;done) | (simp;omega),?_⟩;conv=>whnf)))
    ·have:a=n:=by simp at hb;omega
     subst this
     repeat (refine gw rfl ?_;conv=>whnf)
     rw [FM]
def enN (k:Nat):D := .int .i64 (k:Nat)
def enM (d:List (List Bool)):D := .list (d.map fun r => .list (r.map D.bool))
def rowB (d:List (List Bool)) (a:Nat):List Bool:=(d[a]?).getD []
def Square (n:Nat) (d:List (List Bool)):Prop:=d.length=n∧∀ r∈d,r.length=n
theorem Square.row {n:Nat} {d:List (List Bool)} (h:Square n d) {a:Nat} (ha:a<n):(rowB d a).length=n:=by
 unfold rowB
 have hl:=h.1
 rw [List.getElem?_eq_getElem (by omega)]
 exact h.2 _ (List.getElem_mem _)
theorem Square.at {n:Nat} {d:List (List Bool)} (h:Square n d) {a:Nat} (ha:a<n):(d.map fun r=>D.list (r.map D.bool))[((a:Nat):Int).toNat]?=some (.list ((rowB d a).map D.bool)):=by
 have hl:=h.1
 rw [Int.toNat_natCast,List.getElem?_map]
 unfold rowB
 rw [List.getElem?_eq_getElem (by omega)];rfl
theorem Square.at2 {n:Nat} {d:List (List Bool)} (h:Square n d) {a b:Nat} (ha:a<n) (hb:b<n):((rowB d a).map D.bool)[((b:Nat):Int).toNat]?=some (.bool (dAt d a b)):=by
 have hl:=h.row ha
 rw [Int.toNat_natCast,List.getElem?_map]
 show Option.map _ (rowB d a)[b]?=some (D.bool (((rowB d a)[b]?).getD false))
 rw [List.getElem?_eq_getElem (by omega)];rfl
theorem FT {l:List Bool} {b:Nat} (hb:b<l.length):(l.map D.bool)[((b:Nat):Int).toNat]?=some (.bool (ED l b)):=by
 rw [Int.toNat_natCast,List.getElem?_map]
 unfold ED
 rw [List.getElem?_eq_getElem hb];rfl
theorem sG (n:Nat) (m:Own.Rows):Square n (cO n m):=by
 refine ⟨by simp [cO],fun r hr=>?_⟩
 obtain ⟨a,_,rfl⟩:=List.mem_map.1 hr
 simp [sF]
def iM (d:List (List Bool)) (a b:Nat):List Nat:=(List.range b).filter (dD d a)
theorem fM (d:List (List Bool)) (a b:Nat):iM d a (b+1)=if dD d a b then iM d a b++[b] else iM d a b:=by
 unfold iM
 rw [List.range_succ,List.filter_append]
 by_cases h:dD d a b=true
 ·simp [h]
 ·simp [h]
set_option maxRecDepth 10000 in
theorem Tryz.ready (d:List (List Bool)) (n:Nat) (l:List Bool) (a:Nat) (hd:Square n d) (hl:l.length=n) (hn:n≤64) (ha:a<n) :
  aG Tryz.prog 42 [4,3,5,22] [.d (.int .i64 (a:Nat)),.ptr 4 0,.ptr 3 0,.ptr 5 0]
   [((4,0),.cell (.d (.int .i64 (n:Nat)))),((3,0),.cell (.d (enM d))),((5,0),.cell (.sl 22 1 0 n)),((22,0),.arr 1 (l.map D.bool))] []
   [.d (.list (match pG d n l a with | true=>(grp d n a).map enN | false=>[])),.d (.bool (pG d n l a))]
   [((4,0),.cell (.d (.int .i64 (n:Nat)))),((3,0),.cell (.d (enM d))),((5,0),.cell (.sl 22 1 0 n)),((22,0),.arr 1 (l.map D.bool))]:=by
 refine aG.of_wp hT (nt:=_) (c:=_) Tryz.func42 rfl rfl rfl rfl (by kernel_rfl) rfl rfl ?_
 intro w0 ok0 wr β0
 repeat (refine gw rfl ?_;conv=>whnf)
 refine WP.loop (α:=Nat) (fun b=>⟨[(0,.d (.int .i64 a)),(1,.ptr 4 0),(2,.ptr 3 0),(3,.ptr 5 0),(7,.sl 7 1 0 (iM d a b).length),(9,.d (.int .i64 n)),(10,.d (.int .i64 b))],
   [((4,0),some (.cell (.d (.int .i64 (n:Nat))))),((3,0),some (.cell (.d (enM d)))),((5,0),some (.cell (.sl 22 1 0 n))),((22,0),some (.arr 1 (l.map D.bool))),((7,0),some (.arr 1 ((iM d a b).map enN)))],[4,3,5,22,7]⟩)
  (fun b=>b≤n∧∀ c,c<b→fK d l a c=true) (fun b=>n-b) 0 [(4,some 4),(3,some 3),(5,some 5),(22,some 22),(7,none)] [] ?_ ?_ ?_
 ·((conv=>whnf);repeat (first | exact ⟨⟩ | (refine ⟨by first | rfl | (simp;done) | (simp;omega),?_⟩;conv=>whnf)))
 ·exact ⟨Nat.zero_le _,fun c hc=>by omega⟩
 ·rintro b ⟨hb0,hf⟩
  repeat (refine gw rfl ?_;conv=>whnf)
  (split<;>rename_i hb<;>(try rw [hb])<;>(conv=>whnf))
  ·have hlt:b<n:=by simpa using hb
   clear hb
   have hgl:(iM d a b).length≤b:=by
    have:=List.length_filter_le (dD d a) (List.range b)
    rwa [List.length_range] at this
   have yes:fK d l a b=true→∀ c,c<b+1→fK d l a c=true:=fun h c hc=>by
    rcases Nat.lt_or_ge c b with h1 | h1
    ·exact hf c h1
    ·obtain rfl:c=b:=by omega
     exact h
   repeat (refine gw rfl ?_;conv=>whnf)
   by_cases e:a=b
   ·have hs:dD d a b=true:=by unfold dD;simp [e]
    rw [show (((a:Nat):Int)==((b:Nat):Int))=true by simp [e]]
    conv=>whnf
    repeat (refine gw rfl ?_;conv=>whnf)
    refine ⟨rfl,?_⟩
    conv=>whnf
    refine ⟨_,by rw [List.drop_zero,List.take_of_length_le (by simp)],by simp,?_⟩
    conv=>whnf
    refine ⟨_,rfl,Nat.le_refl _,?_⟩
    conv=>whnf
    refine ⟨by show (_+1)*8≤_;rw [List.length_map];omega,?_⟩
    conv=>whnf
    repeat (refine gw rfl ?_;conv=>whnf)
    refine ⟨by omega,?_⟩
    conv=>whnf
    refine ⟨b+1,[(4,some 4),(3,some 3),(5,some 5),(22,some 22),(7,some 38)],[],?_,⟨by omega,yes (by unfold fK;rw [hs];rfl)⟩,by omega⟩
    have hg:iM d a (b+1)=iM d a b++[b]:=by rw [fM,if_pos hs]
    rw [hg]
    (try rw [List.map_append,show List.map enN [b]=[D.int .i64 (b:Nat)] from rfl])
    ((conv=>whnf);repeat (first | exact ⟨⟩ | (refine ⟨by first | rfl | (simp;done) | (simp;omega),?_⟩;conv=>whnf)))
   ·rw [show (((a:Nat):Int)==((b:Nat):Int))=false from decide_eq_false (by omega)]
    conv=>whnf
    refine ⟨by omega,_,hd.at ha,rfl,?_⟩
    conv=>whnf
    refine ⟨by omega,_,hd.at2 ha hlt,rfl,?_⟩
    conv=>whnf
    cases h1:dAt d a b with
    | false=>
      have hs:dD d a b=false:=by unfold dD;simp [e,h1]
      have hfi:fK d l a b=true:=by unfold fK;simp [h1]
      conv=>whnf
      repeat (refine gw rfl ?_;conv=>whnf)
      refine ⟨by omega,_,hd.at ha,rfl,?_⟩
      conv=>whnf
      refine ⟨by omega,_,hd.at2 ha hlt,rfl,?_⟩
      conv=>whnf
      rw [h1]
      conv=>whnf
      repeat (refine gw rfl ?_;conv=>whnf)
      refine ⟨by omega,?_⟩
      conv=>whnf
      refine ⟨b+1,[(4,some 4),(3,some 3),(5,some 5),(22,some 22),(7,some 7)],[],?_,⟨by omega,yes hfi⟩,by omega⟩
      have hg:iM d a (b+1)=iM d a b:=by rw [fM,hs];rfl
      rw [hg]
      (try rw [List.map_append,show List.map enN [b]=[D.int .i64 (b:Nat)] from rfl])
      ((conv=>whnf);repeat (first | exact ⟨⟩ | (refine ⟨by first | rfl | (simp;done) | (simp;omega),?_⟩;conv=>whnf)))
    | true=>
      conv=>whnf
      refine ⟨by omega,_,hd.at hlt,rfl,?_⟩
      conv=>whnf
      refine ⟨by omega,_,hd.at2 hlt ha,rfl,?_⟩
      conv=>whnf
      cases h2:dAt d b a with
      | true=>
        have hs:dD d a b=true:=by unfold dD;simp [h1,h2]
        conv=>whnf
        repeat (refine gw rfl ?_;conv=>whnf)
        refine ⟨rfl,?_⟩
        conv=>whnf
        refine ⟨_,by rw [List.drop_zero,List.take_of_length_le (by simp)],by simp,?_⟩
        conv=>whnf
        refine ⟨_,rfl,Nat.le_refl _,?_⟩
        conv=>whnf
        refine ⟨by show (_+1)*8≤_;rw [List.length_map];omega,?_⟩
        conv=>whnf
        repeat (refine gw rfl ?_;conv=>whnf)
        refine ⟨by omega,?_⟩
        conv=>whnf
        refine ⟨b+1,[(4,some 4),(3,some 3),(5,some 5),(22,some 22),(7,some 38)],[],?_,⟨by omega,yes (by unfold fK;rw [hs];rfl)⟩,by omega⟩
        have hg:iM d a (b+1)=iM d a b++[b]:=by rw [fM,if_pos hs]
        rw [hg]
        (try rw [List.map_append,show List.map enN [b]=[D.int .i64 (b:Nat)] from rfl])
        ((conv=>whnf);repeat (first | exact ⟨⟩ | (refine ⟨by first | rfl | (simp;done) | (simp;omega),?_⟩;conv=>whnf)))
      | false=>
        have hs:dD d a b=false:=by unfold dD;simp [e,h2]
        conv=>whnf
        repeat (refine gw rfl ?_;conv=>whnf)
        refine ⟨by omega,_,hd.at ha,rfl,?_⟩
        conv=>whnf
        refine ⟨by omega,_,hd.at2 ha hlt,rfl,?_⟩
        conv=>whnf
        rw [h1]
        conv=>whnf
        refine ⟨by omega,?_⟩
        conv=>whnf
        refine ⟨_,by rw [Nat.zero_add];exact FT (by omega),?_⟩
        conv=>whnf
        cases h3:ED l b with
        | true=>
          have hfi:fK d l a b=true:=by unfold fK;simp [h3]
          conv=>whnf
          repeat (refine gw rfl ?_;conv=>whnf)
          refine ⟨by omega,?_⟩
          conv=>whnf
          refine ⟨b+1,[(4,some 4),(3,some 3),(5,some 5),(22,some 22),(7,some 7)],[],?_,⟨by omega,yes hfi⟩,by omega⟩
          have hg:iM d a (b+1)=iM d a b:=by rw [fM,hs];rfl
          rw [hg]
          (try rw [List.map_append,show List.map enN [b]=[D.int .i64 (b:Nat)] from rfl])
          ((conv=>whnf);repeat (first | exact ⟨⟩ | (refine ⟨by first | rfl | (simp;done) | (simp;omega),?_⟩;conv=>whnf)))
        | false=>
          have hr:pG d n l a=false:=by
           unfold pG
           rw [List.all_eq_false]
           exact ⟨b,List.mem_range.2 hlt,by unfold fK;simp [hs,h1,h3]⟩
          rw [hr]
          conv=>whnf
          repeat (refine gw rfl ?_;conv=>whnf)
          refine ⟨[(4,some 4),(3,some 3),(5,some 5),(22,some 22)],[],?_,rfl⟩
          ((conv=>whnf);repeat (first | exact ⟨⟩ | (refine ⟨by first | rfl | (simp;done) | (simp;omega),?_⟩;conv=>whnf)))
  ·have:b=n:=by simp at hb;omega
   subst this
   have hr:pG d b l a=true:=List.all_eq_true.2 fun c hc=>hf c (List.mem_range.1 hc)
   rw [hr]
   clear hb
   repeat (refine gw rfl ?_;conv=>whnf)
   refine ⟨[(4,some 4),(3,some 3),(5,some 5),(22,some 22)],[7],?_,rfl⟩
   ((conv=>whnf);repeat (first | exact ⟨⟩ | (refine ⟨by first | rfl | (simp;done) | (simp;omega),?_⟩;conv=>whnf)))
   refine ⟨(iM d a b).map enN,by rw [List.drop_zero,List.take_of_length_le (by simp)],by simp,rfl,?_⟩
   ((conv=>whnf);repeat (first | exact ⟨⟩ | (refine ⟨by first | rfl | (simp;done) | (simp;omega),?_⟩;conv=>whnf)))
def dh (out:List (List Nat)):List D:=out.map fun g => .list (g.map enN)
theorem eP {atoms:List Tm} {rules:List Gr} (h:aP atoms rules=true):eH atoms.length rules:=by
 have key:∀ r∈rules,iT atoms.length r=true:=fun r hr=>by
  unfold aP at h
  simp only [Bool.and_eq_true] at h
  obtain ⟨i,hi,rfl⟩:=List.mem_iff_getElem.1 hr
  have:=jg.1 h.2 i hi
  rw [kZ hi,Bool.and_eq_true] at this
  exact this.1
 refine ⟨fun r hr=>?_,fun r hr=>?_⟩
 ·have:=key r hr
  unfold iT jR at this
  simp only [Bool.and_eq_true,decide_eq_true_eq] at this
  omega
 ·have:=key r hr
  unfold iT at this
  simp only [Bool.and_eq_true] at this
  exact ⟨qZ this.1.2,qZ this.2⟩
structure GSt where
 l:List Bool
 out:List (List Nat)
 a:Nat
 k:Nat
 m:Nat
structure GOk (d:List (List Bool)) (n:Nat) (x:GSt):Prop where
 len:x.l.length=n
 fuel:bZ x.l<x.k
 run:yA d n x.k x.l x.out=aV d n
 before:∀ c,c<x.a→qB d n x.l c=false
 le:x.a≤n
 cnt:x.out.length+bZ x.l≤n
theorem wV {l:List Bool} {g:List Nat} {i:Nat} (h:i<g.length):dH l (g.take (i+1))=(dH l (g.take i)).set g[i] true:=by
 unfold dH
 rw [List.take_succ_eq_append_getElem h,List.foldl_append];rfl
theorem Q5 (l:List Bool):bZ l≤l.length:=List.count_le_length
theorem NV {n a:Nat} {p:Nat→Bool} (h:∀ c,c<a→p c=false) (ha:a<n) (hp:p a=true):(List.range n).find? p=some a:=by
 rw [List.find?_range_eq_some]
 exact ⟨hp,List.mem_range.2 ha,fun j hj=>by rw [h j hj];rfl⟩
theorem FB {d:List (List Bool)} {n k:Nat} {l:List Bool} {out:List (List Nat)} (hk:0<k) (h:∀ c,c<n→qB d n l c=false):yA d n k l out=out:=by
 cases k with
 | zero=>omega
 | succ k=>
   unfold yA
   rw [List.find?_eq_none.2 fun c hc=>by rw [h c (List.mem_range.1 hc)];simp]
theorem Fv {d:List (List Bool)} {n k a:Nat} {l:List Bool} {out:List (List Nat)} (ha:a<n) (hc:qB d n l a=true) (h:∀ c,c<a→qB d n l c=false):yA d n (k+1) l out=yA d n k (dH l (grp d n a)) (out++[grp d n a]):=by
 conv=>lhs;unfold yA
 rw [NV h ha hc]
theorem Tryz.groups (atoms:List Tm) (rules:List Gr) (hok:∀ x∈atoms,okT x) (hv:aP atoms rules=true) (hn:atoms.length≤64) (hr:rules.length≤128) (hf:∀ r∈rules,r.2.1.length+r.2.2.length≤16) :
  Pure Tryz.prog 12 [gD atoms rules] [.list (dh (aV (cO atoms.length (aA atoms.length rules)) atoms.length))]:=by
 have hfit:yY rules:=fun r h=>by have:=hf r h;omega
 refine Pure.of_wp hT (nt:=_) (c:=_) Tryz.func12 rfl rfl rfl rfl (by kernel_rfl) ?_
 intro w0 ok0 β0
 repeat (refine gw rfl ?_;conv=>whnf)
 refine .inl ⟨_,Tryz.AX atoms rules hok hfit,.inl rfl,?_⟩
 rw [hv]
 conv=>whnf
 repeat (refine gw rfl ?_;conv=>whnf)
 refine .inl ⟨_,Tryz.dependencies atoms rules (eP hv) hn hr hf,.inl rfl,?_⟩
 conv=>whnf
 obtain ⟨n,hnn⟩:∃ n,atoms.length=n:=⟨_,rfl⟩
 rw [hnn]
 generalize hD:cO n (aA n rules)=d
 have hsq:Square n d:=hD ▸ sG n (aA n rules)
 repeat (refine gw rfl ?_;conv=>whnf)
 refine ⟨rfl,?_⟩
 conv=>whnf
 repeat (refine gw rfl ?_;conv=>whnf)
 refine ⟨rfl,?_⟩
 conv=>whnf
 repeat (refine gw rfl ?_;conv=>whnf)
 rw [List.length_map,hnn]
 refine ⟨⟨by omega,by omega,by omega,by show ((1:Nat):Int)*(n:Int)≤281474976710656;omega⟩,?_⟩
 rw [Int.toNat_natCast]
 conv=>whnf
 refine ⟨rfl,?_⟩
 conv=>whnf
 repeat (refine gw rfl ?_;conv=>whnf)
 refine WP.loop (α:=GSt) (fun x=>⟨[(3,.ptr 3 0),(4,.ptr 4 0),(5,.ptr 5 0),(6,.func (.func 42) [] [.ptr 4 0,.ptr 3 0,.ptr 5 0]),(7,.sl 7 1 0 x.out.length),(8,.d (.int .i64 x.a))],
   [((3,0),some (.cell (.d (enM d)))),((4,0),some (.cell (.d (.int .i64 n)))),((5,0),some (.cell (.sl 22 1 0 n))),((22,0),some (.arr 1 (x.l.map D.bool))),((7,0),some (.arr 1 (dh x.out)))],[3,4,5,22,7]⟩)
  (GOk d n) (fun x=>bZ x.l*(n+1)+(n-x.a)) ⟨List.replicate n false,[],0,n+1,0⟩ [(3,some 3),(4,some 4),(5,some 5),(22,some 22),(7,none)] [] ?_ ?_ ?_
 ·rw [show List.replicate n (D.bool false)=(List.replicate n false).map D.bool by simp]
  ((conv=>whnf);repeat (first | exact ⟨⟩ | (refine ⟨by first | rfl | (simp;done) | (simp;omega),?_⟩;conv=>whnf)))
 ·exact ⟨by simp,by simp only [dL];omega,rfl,fun c hc=>by simp only at hc;omega,Nat.zero_le _,by simp [dL]⟩
 ·rintro ⟨l,out,a,k,_⟩ ⟨hl,hfu,hrun,hbe,hle,hcnt⟩
  dsimp only at hl hfu hrun hbe hle hcnt ⊢
  repeat (refine gw rfl ?_;conv=>whnf)
  (split<;>rename_i hb<;>(try rw [hb])<;>(conv=>whnf))
  ·have hlt:a<n:=by simpa using hb
   clear hb
   repeat (refine gw rfl ?_;conv=>whnf)
   refine ⟨by omega,?_⟩
   rw [Int.toNat_natCast]
   conv=>whnf
   refine ⟨_,by rw [Nat.zero_add,← Int.toNat_natCast a];exact FT (by omega),?_⟩
   conv=>whnf
   refine W7 ?_ rfl;conv=>whnf
   cases hla:ED l a with
   | true=>
     have hc:qB d n l a=false:=by unfold qB;rw [hla];rfl
     conv=>whnf
     repeat (refine gw rfl ?_;conv=>whnf)
     refine ⟨by omega,?_⟩
     conv=>whnf
     refine ⟨⟨l,out,a+1,k,0⟩,[(3,some 3),(4,some 4),(5,some 5),(22,some 22),(7,some 7)],[],?_,⟨hl,hfu,hrun,fun c h=>?_,by dsimp only;omega,hcnt⟩,by dsimp only;omega⟩
     ·((conv=>whnf);repeat (first | exact ⟨⟩ | (refine ⟨by first | rfl | (simp;done) | (simp;omega),?_⟩;conv=>whnf)))
     ·dsimp only at h
      rcases Nat.lt_or_ge c a with h1 | h1
      ·exact hbe c h1
      ·rw [show c=a by omega];exact hc
   | false=>
     conv=>whnf
     repeat (refine gw rfl ?_;conv=>whnf)
     refine .inr ⟨_,_,_,_,_,_,Tryz.ready d n l a hsq hl (by omega) hlt,[(4,4),(3,3),(5,5),(22,22)],[],rfl,rfl,?_⟩
     conv=>whnf
     refine ⟨rfl,rfl,rfl,rfl,?_⟩
     conv=>whnf
     refine W1 ?_
     refine W2 hT hM [] ?_;conv=>whnf
     refine W7 ?_ rfl;conv=>whnf
     cases hrd:pG d n l a with
     | false=>
       have hc:qB d n l a=false:=by unfold qB;rw [hla,hrd];rfl
       conv=>whnf
       repeat (refine gw rfl ?_;conv=>whnf)
       refine ⟨by omega,?_⟩
       conv=>whnf
       refine ⟨⟨l,out,a+1,k,0⟩,[(3,some 3),(4,some 4),(5,some 5),(22,some 22),(7,some 7)],[],?_,⟨hl,hfu,hrun,fun c h=>?_,by dsimp only;omega,hcnt⟩,by dsimp only;omega⟩
       ·((conv=>whnf);repeat (first | exact ⟨⟩ | (refine ⟨by first | rfl | (simp;done) | (simp;omega),?_⟩;conv=>whnf)))
       ·dsimp only at h
        rcases Nat.lt_or_ge c a with h1 | h1
        ·exact hbe c h1
        ·rw [show c=a by omega];exact hc
     | true=>
       have hc:qB d n l a=true:=by unfold qB;rw [hla,hrd];rfl
       conv=>whnf
       have hgl:(grp d n a).length≤64:=by
        have:=List.length_filter_le (dD d a) (List.range n)
        rw [List.length_range] at this
        show ((List.range n).filter _).length≤64
        omega
       have hll:=Q5 l
       refine WP.weak (l':=⟨[(3,.ptr 3 0),(4,.ptr 4 0),(5,.ptr 5 0),(6,.func (.func 42) [] [.ptr 4 0,.ptr 3 0,.ptr 5 0]),(7,.sl 7 1 0 out.length),(9,.d (.list ((grp d n a).map enN)))],
        [((3,0),some (.cell (.d (enM d)))),((4,0),some (.cell (.d (.int .i64 n)))),((5,0),some (.cell (.sl 22 1 0 n))),((22,0),some (.arr 1 (l.map D.bool))),((7,0),some (.arr 1 (dh out)))],[3,4,5,22,7]⟩)
        [(3,some 3),(4,some 4),(5,some 5),(22,some 22),(7,some 7)] [] ?_ ?_
       ·((conv=>whnf);repeat (first | exact ⟨⟩ | (refine ⟨by first | rfl | (simp;done) | (simp;omega),?_⟩;conv=>whnf)))
       repeat (refine gw rfl ?_;conv=>whnf)
       refine ⟨rfl,?_⟩
       conv=>whnf
       refine ⟨_,by rw [List.drop_zero,List.take_of_length_le (by simp [dh])],by simp [dh],?_⟩
       conv=>whnf
       refine ⟨_,rfl,Nat.le_refl _,?_⟩
       conv=>whnf
       refine ⟨by show (_+1)*24≤_;simp only [dh,List.length_map];omega,?_⟩
       conv=>whnf
       repeat (refine gw rfl ?_;conv=>whnf)
       refine WP.loop (α:=Nat) (fun i=>⟨[(3,.ptr 3 0),(4,.ptr 4 0),(5,.ptr 5 0),(6,.func (.func 42) [] [.ptr 4 0,.ptr 3 0,.ptr 5 0]),(7,.sl 7 1 0 (out.length+1)),(44,.d (.list ((grp d n a).map enN))),(45,.d (.int .i64 (grp d n a).length)),(46,.d (.int .i64 i))],
        [((3,0),some (.cell (.d (enM d)))),((4,0),some (.cell (.d (.int .i64 n)))),((5,0),some (.cell (.sl 22 1 0 n))),((22,0),some (.arr 1 ((dH l ((grp d n a).take i)).map D.bool))),((7,0),some (.arr 1 (dh (out++[grp d n a]))))],[3,4,5,22,7]⟩)
        (fun i=>i≤(grp d n a).length) (fun i=>(grp d n a).length-i) 0 [(3,some 3),(4,some 4),(5,some 5),(22,some 22),(7,some 43)] [] ?_ ?_ ?_
       ·rw [List.length_map]
        rw [show (dh out).length+(List.take [D.list ((grp d n a).map enN)].length (List.drop 0 [D.list ((grp d n a).map enN)])).length=out.length+1 by simp [dh],show dh out++List.take [D.list ((grp d n a).map enN)].length (List.drop 0 [D.list ((grp d n a).map enN)])=dh (out++[grp d n a]) by simp [dh]]
        ((conv=>whnf);repeat (first | exact ⟨⟩ | (refine ⟨by first | rfl | (simp;done) | (simp;omega),?_⟩;conv=>whnf)))
       ·exact Nat.zero_le _
       ·intro i hi
        repeat (refine gw rfl ?_;conv=>whnf)
        (split<;>rename_i hb<;>(try rw [hb])<;>(conv=>whnf))
        ·have hig:i<(grp d n a).length:=by simpa using hb
         clear hb
         have hxn:(grp d n a)[i]<n:=(iE.1 (List.getElem_mem hig)).1
         repeat (refine gw rfl ?_;conv=>whnf)
         refine ⟨by omega,_,ak hig,rfl,?_⟩
         conv=>whnf
         repeat (refine gw rfl ?_;conv=>whnf)
         refine ⟨⟨by omega,by omega⟩,?_⟩
         conv=>whnf
         refine ⟨rfl,_,by rw [Nat.zero_add];exact FT (by rw [gK];omega),?_⟩
         conv=>whnf
         refine .inl ⟨rfl,rfl,?_⟩
         conv=>whnf
         repeat (refine gw rfl ?_;conv=>whnf)
         refine ⟨by omega,?_⟩
         conv=>whnf
         refine ⟨i+1,[(3,some 3),(4,some 4),(5,some 5),(22,some 22),(7,some 7)],[],?_,by omega,by omega⟩
         rw [show ((dH l ((grp d n a).take i)).map D.bool).set (0+((((grp d n a)[i]:Nat):Int)).toNat) (D.bool true)=(dH l ((grp d n a).take (i+1))).map D.bool by rw [wV hig,List.map_set];simp]
         ((conv=>whnf);repeat (first | exact ⟨⟩ | (refine ⟨by first | rfl | (simp;done) | (simp;omega),?_⟩;conv=>whnf)))
        ·have:i=(grp d n a).length:=by simp at hb;omega
         subst this
         clear hb
         rw [List.take_length]
         have hga:a∈grp d n a:=iE.2 ⟨hlt,by simp [dD]⟩
         have hla':l[a]?=some false:=by
          have:=hla
          unfold ED at this
          rw [List.getElem?_eq_getElem (by omega)] at this ⊢
          simpa using this
         have hmk:=jl (grp d n a) l a hga hla'
         have hmul:=Nat.mul_le_mul_right (n+1) (Nat.succ_le_of_lt hmk)
         rw [Nat.succ_mul] at hmul
         repeat (refine gw rfl ?_;conv=>whnf)
         refine ⟨by decide,?_⟩
         conv=>whnf
         obtain ⟨k',rfl⟩:∃ k',k=k'+1:=⟨k-1,by omega⟩
         rw [Fv hlt hc hbe] at hrun
         refine ⟨⟨dH l (grp d n a),out++[grp d n a],0,k',0⟩,[(3,some 3),(4,some 4),(5,some 5),(22,some 22),(7,some 7)],[],?_,⟨by rw [gK];exact hl,by dsimp only;omega,hrun,fun c h=>by dsimp only at h;omega,Nat.zero_le _,by dsimp only;rw [List.length_append];simp only [List.length_singleton];omega⟩,by dsimp only;omega⟩
         rw [show (out++[grp d n a]).length=out.length+1 by simp]
         ((conv=>whnf);repeat (first | exact ⟨⟩ | (refine ⟨by first | rfl | (simp;done) | (simp;omega),?_⟩;conv=>whnf)))
  ·have:a=n:=by simp at hb;omega
   subst this
   rw [FB (by omega) hbe] at hrun
   clear hb
   repeat (refine gw rfl ?_;conv=>whnf)
   refine ⟨_,by rw [List.drop_zero,List.take_of_length_le (by simp [dh])],by simp [dh],?_⟩
   conv=>whnf
   rw [hrun]
end Go.Proofs.YtdonenoiehdahaaGreat
namespace Go.Own
def AZ (most:Int) (p:Tm→Int):Int→List Tm→Int
 | n,[]=>n
 | n,x::l=>if most<n then n else AZ most p (n+p x) l
def gI (most:Int):Nat→Tm→Int
 | 0,_=>most+1
 | d+1,t=>AZ most (gI most d) 1 t.args
theorem AY {most b:Int} {p:Tm→Int} (hp:∀ x,1≤p x∧p x≤b) (hm:0≤most):∀ (l:List Tm) (n:Int),1≤n→n≤most+b→0≤b→1≤AZ most p n l∧AZ most p n l≤most+b
 | [],n,h1,h2,_=>⟨h1,h2⟩
 | x::l,n,h1,h2,h3=>by
   unfold AZ
   split
   ·exact ⟨h1,h2⟩
   ·have:=hp x
    exact AY hp hm l _ (by omega) (by omega) h3
theorem pK {most:Int} (hm:0≤most):∀ (d:Nat) (t:Tm),1≤gI most d t∧gI most d t≤(d+1)*(most+1)
 | 0,t=>by unfold gI;refine ⟨by omega,by simp⟩
 | d+1,t=>by
   have ih:=pK hm d
   have hb:((d+1:Nat)+1:Int)*(most+1)=(most+1)+(d+1)*(most+1):=by
    rw [show ((d+1:Nat)+1:Int)=(d+1)+1 by omega,Int.add_mul];omega
   have h0:(0:Int)≤(d+1)*(most+1):=Int.mul_nonneg (by omega) (by omega)
   have:=AY (p:=gI most d) (b:=(d+1)*(most+1)) ih hm t.args 1 (Int.le_refl _) (by
    have:=ih t;omega) h0
   unfold gI
   omega
def vG (most:Int) (t:Tm):Bool:=decide (gI most most.toNat t≤most)
def jc (most:Int) (l:List Tm):Bool:=decide ((l.length:Int)≤most)&&l.all (vG most)
def pq (atoms:List Tm) (rules:List Gr):Bool:=jc 60 atoms&&decide (rules.length≤80)&&rules.all fun r=>decide (r.2.1.length+r.2.2.length≤12)
end Go.Own
namespace Go.Proofs.YtdonenoiehdahaaGreat
open Go Go.Abs Go.Own
attribute [local irreducible] WP
theorem H8 (most:Nat) (hm:most≤1000) (d:Nat) (hd:d≤1000) (t:Tm):1≤gI most d t∧gI most d t≤1002001:=by
 obtain ⟨h1,h2⟩:=pK (most:=(most:Nat)) (by omega) d t
 have:((d:Int)+1)*((most:Int)+1)≤1001*1001:=Int.mul_le_mul (by omega) (by omega) (by omega) (by decide)
 omega
theorem Tryz.parts (most:Nat) (hm:most≤1000):∀ (d:Nat),d≤1000→∀ t:Tm,okT t→Pure Tryz.prog 65 [tD t.name t.args,.int .i64 most,.int .i64 d] [.int .i64 (gI most d t)]:=by
 intro d
 induction d with
 | zero=>
   intro _ t _
   refine Pure.of_wp hT (nt:=_) (c:=_) Tryz.func65 rfl rfl rfl rfl (by kernel_rfl) ?_
   intro w0 ok0 β0
   repeat (refine gw rfl ?_;conv=>whnf)
   rw [show decide (((0:Nat):Int)<1)=true from rfl]
   conv=>whnf
   repeat (refine gw rfl ?_;conv=>whnf)
   refine ⟨by omega,?_⟩
   conv=>whnf
   repeat (refine gw rfl ?_;conv=>whnf)
   rw [gI]
 | succ d ih=>
   intro hd t ht
   have hok:=aU.1 ht
   refine Pure.of_wp hT (nt:=_) (c:=_) Tryz.func65 rfl rfl rfl rfl (by kernel_rfl) ?_
   intro w0 ok0 β0
   repeat (refine gw rfl ?_;conv=>whnf)
   rw [show decide (((d+1:Nat):Int)<1)=false from decide_eq_false (by omega)]
   conv=>whnf
   repeat (refine gw rfl ?_;conv=>whnf)
   refine WP.loop (α:=Nat×Int) (fun x=>⟨[(1,.d (.int .i64 most)),(2,.d (.int .i64 (d+1:Nat))),(3,.d (.ref [.str t.name,.list (t.args.map enT)] 0)),(7,.d (.int .i64 x.2)),(14,.d (.list (t.args.map enT))),(15,.d (.int .i64 t.args.length)),(16,.d (.int .i64 x.1))],[],[]⟩)
    (fun x=>x.1≤t.args.length∧1≤x.2∧x.2≤most+1002001∧gI most (d+1) t=AZ most (gI most d) x.2 (t.args.drop x.1)) (fun x=>t.args.length-x.1) (0,1) [] [] ?_ ?_ ?_
   ·((conv=>whnf);repeat (first | exact ⟨⟩ | (refine ⟨by first | rfl | (simp;done) | (simp;omega),?_⟩;conv=>whnf)))
   ·exact ⟨Nat.zero_le _,Int.le_refl _,by omega,rfl⟩
   ·rintro ⟨i,n⟩ ⟨hi,h1,h2,h3⟩
    dsimp only at hi h1 h2 h3 ⊢
    repeat (refine gw rfl ?_;conv=>whnf)
    (split<;>rename_i hb<;>(try rw [hb])<;>(conv=>whnf))
    ·have hlt:i<t.args.length:=by simpa using hb
     clear hb
     rw [List.drop_eq_getElem_cons hlt,AZ] at h3
     repeat (refine gw rfl ?_;conv=>whnf)
     (split<;>rename_i hb<;>(try rw [hb])<;>(conv=>whnf))
     ·have hn:(most:Int)<n:=by simpa using hb
      rw [if_pos hn] at h3
      repeat (refine gw rfl ?_;conv=>whnf)
      rw [h3]
     ·have hn:¬ (most:Int)<n:=by simpa using hb
      rw [if_neg hn] at h3
      have hp:=H8 most hm d (by omega) t.args[i]
      repeat (refine gw rfl ?_;conv=>whnf)
      refine ⟨by omega,_,dA hlt,rfl,?_⟩
      conv=>whnf
      refine ⟨by omega,?_⟩
      rw [show ((d+1:Nat):Int)-1=(d:Nat) by omega]
      conv=>whnf
      refine .inl ⟨_,ih (by omega) t.args[i] (hok.2 _ (List.getElem_mem hlt)),.inl rfl,?_⟩
      conv=>whnf
      repeat (refine gw rfl ?_;conv=>whnf)
      refine ⟨by omega,?_⟩
      conv=>whnf
      repeat (refine gw rfl ?_;conv=>whnf)
      refine ⟨by omega,?_⟩
      conv=>whnf
      refine ⟨(i+1,n+gI most d t.args[i]),[],[],?_,⟨by dsimp only;omega,by dsimp only;omega,by dsimp only;omega,h3⟩,by dsimp only;omega⟩
      ((conv=>whnf);repeat (first | exact ⟨⟩ | (refine ⟨by first | rfl | (simp;done) | (simp;omega),?_⟩;conv=>whnf)))
    ·have:i=t.args.length:=by simp at hb;omega
     subst this
     rw [List.drop_length,AZ] at h3
     repeat (refine gw rfl ?_;conv=>whnf)
     rw [h3]
theorem Tryz.Ve (most:Nat) (hm:most≤1000) (t:Tm) (ht:okT t):Pure Tryz.prog 24 [tD t.name t.args,.int .i64 most] [.bool (vG most t)]:=by
 refine Pure.of_wp hT (nt:=_) (c:=_) Tryz.func24 rfl rfl rfl rfl (by kernel_rfl) ?_
 intro w0 ok0 β0
 repeat (refine gw rfl ?_;conv=>whnf)
 refine .inl ⟨_,Tryz.parts most hm most (by omega) t ht,.inl rfl,?_⟩
 conv=>whnf
 repeat (refine gw rfl ?_;conv=>whnf)
 rfl
theorem Tryz.Ju (most:Nat) (hm:most≤1000) (l:List Tm) (hl:∀ x∈l,okT x) (hlen:l.length≤9223372036854775807):Pure Tryz.prog 7 [.list (l.map enT),.int .i64 most] [.bool (jc most l)]:=by
 refine Pure.of_wp hT (nt:=_) (c:=_) Tryz.func7 rfl rfl rfl rfl (by kernel_rfl) ?_
 intro w0 ok0 β0
 repeat (refine gw rfl ?_;conv=>whnf)
 (split<;>rename_i hb<;>(try rw [hb])<;>(conv=>whnf))
 ·have h:((most:Nat):Int)<l.length:=by simpa using hb
  rw [show jc most l=false by unfold jc;rw [decide_eq_false (by omega)];rfl]
  repeat (refine gw rfl ?_;conv=>whnf)
 ·have h:¬ ((most:Nat):Int)<l.length:=by simpa using hb
  have hs:jc most l=l.all (vG most):=by unfold jc;rw [decide_eq_true (by omega)];rfl
  rw [hs]
  clear hb
  repeat (refine gw rfl ?_;conv=>whnf)
  refine WP.loop (α:=Nat) (fun i=>⟨[(0,.d (.list (l.map enT))),(1,.d (.int .i64 most)),(11,.d (.int .i64 l.length)),(12,.d (.int .i64 i))],[],[]⟩)
   (fun i=>i≤l.length∧∀ j (h:j<l.length),j<i→vG most l[j]=true) (fun i=>l.length-i) 0 [] [] ?_ ?_ ?_
  ·((conv=>whnf);repeat (first | exact ⟨⟩ | (refine ⟨by first | rfl | (simp;done) | (simp;omega),?_⟩;conv=>whnf)))
  ·exact ⟨Nat.zero_le _,fun j _ hj=>by omega⟩
  ·rintro i ⟨hi,hx⟩
   repeat (refine gw rfl ?_;conv=>whnf)
   (split<;>rename_i hb<;>(try rw [hb])<;>(conv=>whnf))
   ·have hlt:i<l.length:=by simpa using hb
    clear hb
    repeat (refine gw rfl ?_;conv=>whnf)
    refine ⟨by omega,_,dA hlt,rfl,?_⟩
    conv=>whnf
    refine .inl ⟨_,Tryz.Ve most hm l[i] (hl _ (List.getElem_mem hlt)),.inl rfl,?_⟩
    conv=>whnf
    cases hc:vG most l[i] with
    | true=>
      conv=>whnf
      repeat (refine gw rfl ?_;conv=>whnf)
      refine ⟨by omega,?_⟩
      conv=>whnf
      refine ⟨i+1,[],[],?_,⟨by omega,fun j h hj=>?_⟩,by omega⟩
      ·((conv=>whnf);repeat (first | exact ⟨⟩ | (refine ⟨by first | rfl | (simp;done) | (simp;omega),?_⟩;conv=>whnf)))
      ·rcases Nat.lt_or_ge j i with h1 | h1
       ·exact hx j h h1
       ·obtain rfl:j=i:=by omega
        exact hc
    | false=>
      rw [show l.all (vG most)=false from List.all_eq_false.2 ⟨l[i],List.getElem_mem hlt,by rw [hc];simp⟩]
      conv=>whnf
      repeat (refine gw rfl ?_;conv=>whnf)
   ·have:i=l.length:=by simp at hb;omega
    subst this
    rw [show l.all (vG most)=true from List.all_eq_true.2 fun x hxm=>by
     obtain ⟨j,hj,rfl⟩:=List.mem_iff_getElem.1 hxm
     exact hx j hj hj]
    repeat (refine gw rfl ?_;conv=>whnf)
theorem KC {l:List Gr} {i:Nat} (h:i<l.length):(l.map enG)[((i:Int)).toNat]?=some (.agg [.int .i64 l[i].1,.list (l[i].2.1.map enI),.list (l[i].2.2.map enI)]):=ak h
set_option maxRecDepth 10000 in
theorem Tryz.Vf (atoms:List Tm) (rules:List Gr) (hok:∀ x∈atoms,okT x) (hlen:atoms.length≤4000000000000000000) (hlr:rules.length≤4000000000000000000) (hw:∀ r∈rules,r.2.1.length≤4000000000000000000∧r.2.2.length≤4000000000000000000) :
  Pure Tryz.prog 6 [gD atoms rules] [.bool (pq atoms rules)]:=by
 refine Pure.of_wp hT (nt:=_) (c:=_) Tryz.func6 rfl rfl rfl rfl (by kernel_rfl) ?_
 intro w0 ok0 β0
 repeat (refine gw rfl ?_;conv=>whnf)
 refine .inl ⟨_,Tryz.Ju 60 (by decide) atoms hok (by omega),.inl rfl,?_⟩
 conv=>whnf
 cases h1:jc (60:Nat) atoms with
 | false=>
   rw [show pq atoms rules=false by unfold pq;rw [show ((60:Nat):Int)=60 from rfl] at h1;rw [h1];rfl]
   conv=>whnf
   repeat (refine gw rfl ?_;conv=>whnf)
 | true=>
   have hs:pq atoms rules=(decide (rules.length≤80)&&rules.all fun r=>decide (r.2.1.length+r.2.2.length≤12)):=by unfold pq;rw [show ((60:Nat):Int)=60 from rfl] at h1;rw [h1];rfl
   rw [hs]
   conv=>whnf
   rw [List.length_map]
   cases h2:decide (((80:Int))<rules.length) with
   | true=>
     have h2':(80:Int)<rules.length:=by simpa using h2
     rw [show decide (rules.length≤80)=false from decide_eq_false (by omega),Bool.false_and]
     repeat (refine gw rfl ?_;conv=>whnf)
   | false=>
     have h2':¬ (80:Int)<rules.length:=by simpa using h2
     rw [show decide (rules.length≤80)=true from decide_eq_true (by omega),Bool.true_and]
     repeat (refine gw rfl ?_;conv=>whnf)
     refine WP.loop (α:=Nat) (fun i=>⟨[(1,.d (.ref [.list (atoms.map enT),.list (rules.map enG)] 0)),(3,.d (.int .i64 i))],[],[]⟩)
      (fun i=>i≤rules.length∧∀ j (h:j<rules.length),j<i→rules[j].2.1.length+rules[j].2.2.length≤12) (fun i=>rules.length-i) 0 [] [] ?_ ?_ ?_
     ·((conv=>whnf);repeat (first | exact ⟨⟩ | (refine ⟨by first | rfl | (simp;done) | (simp;omega),?_⟩;conv=>whnf)))
     ·exact ⟨Nat.zero_le _,fun j _ hj=>by omega⟩
     ·rintro i ⟨hi,hx⟩
      repeat (refine gw rfl ?_;conv=>whnf)
      rw [List.length_map]
      (split<;>rename_i hb<;>(try rw [hb])<;>(conv=>whnf))
      ·have hlt:i<rules.length:=by simpa using hb
       clear hb
       have hwi:=hw rules[i] (List.getElem_mem hlt)
       repeat (refine gw rfl ?_;conv=>whnf)
       refine ⟨by omega,_,KC hlt,rfl,?_⟩
       conv=>whnf
       refine ⟨by omega,_,KC hlt,rfl,?_⟩
       conv=>whnf
       rw [List.length_map,List.length_map]
       refine ⟨by omega,?_⟩
       conv=>whnf
       repeat (refine gw rfl ?_;conv=>whnf)
       (split<;>rename_i hb<;>(try rw [hb])<;>(conv=>whnf))
       ·have h:(12:Int)<(rules[i].2.1.length:Int)+rules[i].2.2.length:=by simpa using hb
        rw [show (rules.all fun r=>decide (r.2.1.length+r.2.2.length≤12))=false from List.all_eq_false.2 ⟨rules[i],List.getElem_mem hlt,by simp;omega⟩]
        repeat (refine gw rfl ?_;conv=>whnf)
       ·have h:¬ (12:Int)<(rules[i].2.1.length:Int)+rules[i].2.2.length:=by simpa using hb
        repeat (refine gw rfl ?_;conv=>whnf)
        refine ⟨by omega,?_⟩
        conv=>whnf
        refine ⟨i+1,[],[],?_,⟨by omega,fun j h0 hj=>?_⟩,by omega⟩
        ·((conv=>whnf);repeat (first | exact ⟨⟩ | (refine ⟨by first | rfl | (simp;done) | (simp;omega),?_⟩;conv=>whnf)))
        ·rcases Nat.lt_or_ge j i with h1 | h1
         ·exact hx j h0 h1
         ·obtain rfl:j=i:=by omega
          omega
      ·have:i=rules.length:=by simp at hb;omega
       subst this
       rw [show (rules.all fun r=>decide (r.2.1.length+r.2.2.length≤12))=true from List.all_eq_true.2 fun x hxm=>by
        obtain ⟨j,hj,rfl⟩:=List.mem_iff_getElem.1 hxm
        exact decide_eq_true (hx j hj hj)]
       repeat (refine gw rfl ?_;conv=>whnf)
theorem Bq (m:Own.Rows):(dN m).map D.list=m.map fun r=>D.list (r.map enI):=by
 unfold dN;rw [List.map_map];rfl
theorem Tryz.VK (atoms:List Tm) (rules:List Gr) (hi':eH atoms.length rules) (hn:atoms.length≤64) (hr:rules.length≤128) (hf:∀ r∈rules,r.2.1.length+r.2.2.length≤16) :
  Pure Tryz.prog 85 [gD atoms rules] [.list ((aA atoms.length rules).map fun r => .list (r.map enI))]:=by
 obtain ⟨n,hnn⟩:∃ n,atoms.length=n:=⟨_,rfl⟩
 rw [hnn] at hi' hn ⊢
 refine Pure.of_wp hT (nt:=_) (c:=_) Tryz.func85 rfl rfl rfl rfl (by kernel_rfl) ?_
 intro w0 ok0 β0
 refine W1 ?_
 refine W2 hT hM [] ?_;conv=>whnf
 refine W1 ?_
 refine W2 hT hM [9] ?_;conv=>whnf
 rw [List.length_map,hnn]
 refine ⟨⟨by omega,by omega,by omega,by show ((24:Nat):Int)*(n:Int)≤281474976710656;omega⟩,?_⟩
 rw [Int.toNat_natCast,zy n rules]
 conv=>whnf
 repeat (refine gw rfl ?_;conv=>whnf)
 have hE:∀ i j,i≤rules.length→(rowOf (aA n (rules.take i)) j).length≤2048:=fun i j hi=>by
  have h1:=pR (n:=n) (rules:=rules.take i) (k:=16) (fun r hr'=>by have:=hf r (List.mem_of_mem_take hr');omega) j
  rw [List.length_take] at h1
  have h2:min i rules.length*16≤128*16:=Nat.mul_le_mul_right _ (by omega)
  omega
 have hcell:∀ (l:List Int) (y:D),y∈l.map enI→y.cells.length=1:=fun l y hy=>by
  obtain ⟨x,_,rfl⟩:=List.mem_map.1 hy;rfl
 have hlen0:∀ i,(dN (aA n (rules.take i))).length=n:=fun i=>by unfold dN;rw [List.length_map,bJ]
 refine WP.loop (α:=Nat) (fun i=>⟨[(1,.d (.ref [.list (atoms.map enT),.list (rules.map enG)] 0)),(3,.rsl 9 n),(4,.d (.int .i64 i))],[((9,0),some (.rows 1 (dN (aA n (rules.take i))) none))],[9]⟩)
  (fun i=>i≤rules.length) (fun i=>rules.length-i) 0 [(9,some 9)] [] ?_ ?_ ?_
 ·((conv=>whnf);repeat (first | exact ⟨⟩ | (refine ⟨by first | rfl | (simp;done) | (simp;omega),?_⟩;conv=>whnf)))
 ·exact Nat.zero_le _
 ·intro i hi
  repeat (refine gw rfl ?_;conv=>whnf)
  (split<;>rename_i hb<;>(try rw [hb])<;>(conv=>whnf))
  ·have hlt:i<rules.length:=by simpa using hb
   clear hb
   repeat (refine gw rfl ?_;conv=>whnf)
   refine ⟨by omega,_,ak hlt,rfl,?_⟩
   conv=>whnf
   have hm:=hi'.head rules[i] (List.getElem_mem hlt)
   have hrow:=lq (m:=aA n (rules.take i)) (i:=rules[i].1.toNat) (by rw [bJ];omega)
   refine W2 hT hM [] ?_
   conv=>whnf
   refine ⟨⟨hm.1,hm.2⟩,?_⟩
   conv=>whnf
   refine ⟨_,oD hrow,?_⟩
   conv=>whnf
   refine ⟨_,by rw [List.drop_zero,List.take_length],by omega,?_⟩
   conv=>whnf
   refine ⟨hcell _,?_⟩
   conv=>whnf
   have hlt1:=hE i rules[i].1.toNat (by omega)
   have hlt2:=hf rules[i] (List.getElem_mem hlt)
   refine ⟨by show _*8≤_;rw [List.length_map,List.length_map];omega,?_⟩
   conv=>whnf
   refine ⟨_,by rw [List.drop_zero,← List.length_append,List.take_length],by rw [List.length_append];omega,?_⟩
   conv=>whnf
   refine ⟨hcell _,?_⟩
   conv=>whnf
   refine ⟨by show _*8≤_;rw [List.length_append,List.length_map,List.length_map,List.length_map];omega,?_⟩
   conv=>whnf
   refine ⟨⟨hm.1,hm.2⟩,?_⟩
   conv=>whnf
   refine ⟨⟨by rw [hlen0];omega,rfl⟩,_,by rw [List.drop_zero,← List.length_append,List.take_length],by simp only [List.length_append];omega,?_⟩
   conv=>whnf
   rw [Bv _ _ hm.1,← BX hlt]
   repeat (refine gw rfl ?_;conv=>whnf)
   refine ⟨by omega,?_⟩
   conv=>whnf
   refine ⟨i+1,[(9,some 9)],[],?_,by omega,by omega⟩
   ((conv=>whnf);repeat (first | exact ⟨⟩ | (refine ⟨by first | rfl | (simp;done) | (simp;omega),?_⟩;conv=>whnf)))
  ·have:i=rules.length:=by simp at hb;omega
   subst this
   rw [List.take_length]
   clear hb
   repeat (refine gw rfl ?_;conv=>whnf)
   rw [Bq]
theorem TT {α:Type} {f:α→D} {a:List α} {i:Nat} {x:α} (h:a[i]?=some x):(a.map f)[((i:Int)).toNat]?=some (f x):=by simp [h]
theorem WR {m:Own.Rows} {i:Nat} (h:i<m.length):(m.map fun r=>D.list (r.map enI))[((i:Int)).toNat]?=some (.list ((rowOf m (i:Nat)).map enI)):=TT (f:=fun (r:List Int)=>D.list (r.map enI)) (lq h)
theorem Tryz.O5 (atoms:List Tm) (rules:List Gr) (hi':eH atoms.length rules) (hn:atoms.length≤64) (hr:rules.length≤128) (hf:∀ r∈rules,r.2.1.length+r.2.2.length≤16) :
  Pure Tryz.prog 38 [gD atoms rules] [enM (cO atoms.length (aA atoms.length rules))]:=by
 have hlinks:=Tryz.VK atoms rules hi' hn hr hf
 obtain ⟨n,hnn⟩:∃ n,atoms.length=n:=⟨_,rfl⟩
 rw [hnn] at hi' hn hlinks ⊢
 have hNX:Own.RowsIn n (aA n rules):=J3 hi'.body
 have hNL:=bJ n rules
 have hrl:∀ j:Int,(rowOf (aA n rules) j).length≤2048:=fun j=>by
  have h1:=pR (n:=n) (rules:=rules) (k:=16) hf j
  have h2:rules.length*16≤128*16:=Nat.mul_le_mul_right _ (by omega)
  omega
 have hcell:∀ (l:List Int) (y:D),y∈l.map enI→y.cells.length=1:=fun l y hy=>by
  obtain ⟨x,_,rfl⟩:=List.mem_map.1 hy;rfl
 refine Pure.of_wp hT (nt:=_) (c:=_) Tryz.func38 rfl rfl rfl rfl (by kernel_rfl) ?_
 intro w0 ok0 β0
 repeat (refine gw rfl ?_;conv=>whnf)
 refine .inl ⟨_,hlinks,.inl rfl,?_⟩
 conv=>whnf
 generalize hNM:aA n rules=m at hNX hNL hrl
 refine W1 ?_
 refine W2 hT hM [13] ?_;conv=>whnf
 rw [List.length_map,hnn]
 refine ⟨⟨by omega,by omega,by omega,by show ((24:Nat):Int)*(n:Int)≤281474976710656;omega⟩,?_⟩
 rw [Int.toNat_natCast,BL n m]
 conv=>whnf
 repeat (refine gw rfl ?_;conv=>whnf)
 refine WP.loop (α:=Nat) (fun a=>⟨[(3,.d (.list (m.map fun r => .list (r.map enI)))),(4,.rsl 13 n),(5,.d (.int .i64 a))],[((13,0),some (.rows 1 (pO n m a) none))],[13]⟩)
  (fun a=>a≤n) (fun a=>n-a) 0 [(13,some 13)] [] ?_ ?_ ?_
 ·((conv=>whnf);repeat (first | exact ⟨⟩ | (refine ⟨by first | rfl | (simp;done) | (simp;omega),?_⟩;conv=>whnf)))
 ·exact Nat.zero_le _
 ·intro a ha
  repeat (refine gw rfl ?_;conv=>whnf)
  (split<;>rename_i hb<;>(try rw [hb])<;>(conv=>whnf))
  ·have hlt:a<n:=by simpa using hb
   clear hb
   repeat (refine gw rfl ?_;conv=>whnf)
   refine ⟨⟨by omega,by omega,by omega,by show ((1:Nat):Int)*(n:Int)≤281474976710656;omega⟩,?_⟩
   rw [Int.toNat_natCast]
   conv=>whnf
   refine ⟨rfl,?_⟩
   conv=>whnf
   refine ⟨by omega,?_⟩
   rw [Int.toNat_natCast]
   conv=>whnf
   refine ⟨⟨by rw [dJ];omega,trivial⟩,_,by rw [List.drop_zero,List.take_of_length_le (by simp)],by simp,?_⟩
   rw [show List.replicate n (D.bool false)=(List.replicate n false).map D.bool by simp]
   conv=>whnf
   repeat (refine gw rfl ?_;conv=>whnf)
   refine ⟨by omega,_,WR (by omega),rfl,?_⟩
   conv=>whnf
   refine ⟨hcell _,?_⟩
   conv=>whnf
   have hra:=hrl (a:Nat)
   refine ⟨by show _*8≤_;simp only [List.length_map,List.length_nil];omega,?_⟩
   conv=>whnf
   rw [List.nil_append,List.length_map,show ([]:List D).length+(rowOf m (a:Nat)).length=(rowOf m (a:Nat)).length by simp]
   refine W3 ?_
   refine WP.loop (α:=List Bool×List Int×Nat×Nat) (fun y=>⟨[(3,.d (.list (m.map fun r => .list (r.map enI)))),(4,.rsl 13 n),(5,.d (.int .i64 a)),(6,.sl 31 1 y.2.2.1 y.2.2.2)],
     [((13,0),some (.rows 1 ((pO n m a).set a (y.1.map D.bool)) none)),((31,0),some (.arr 1 (y.2.1.map enI)))],[13,31]⟩)
    (fun y=>Dfs m n a y.1 (y.2.1.drop y.2.2.1)∧y.2.2.1+y.2.2.2=y.2.1.length∧y.2.2.2+bZ y.1*2048≤(n+1)*2048) (fun y=>bZ y.1*4096+y.2.2.2)
    (List.replicate n false,rowOf m (a:Nat),0,(rowOf m (a:Nat)).length) [(13,some 13),(31,some 31)] [] ?_ ?_ ?_
   ·((conv=>whnf);repeat (first | exact ⟨⟩ | (refine ⟨by first | rfl | (simp;done) | (simp;omega),?_⟩;conv=>whnf)))
   ·refine ⟨by rw [List.drop_zero];exact Dfs.start _ _ _,by simp,?_⟩
    simp only [dL];omega
   ·rintro ⟨s,xs,o,k⟩ ⟨hd,hk,hsz⟩
    dsimp only at hd hk hsz ⊢
    repeat (refine gw rfl ?_;conv=>whnf)
    (split<;>rename_i hb<;>(try rw [hb])<;>(conv=>whnf))
    ·have hk0:0<k:=by simpa using hb
     clear hb
     have hx:xs[o]?=some xs[o]:=List.getElem?_eq_getElem (by omega)
     have htk:xs.drop o=xs[o]::xs.drop (o+1):=List.drop_eq_getElem_cons (by omega)
     generalize hxe:xs[o]=x at hx htk
     have hxm:x∈xs.drop o:=by rw [htk];simp
     have hxr:=(hd.todo x hxm).inR hNX
     repeat (refine gw rfl ?_;conv=>whnf)
     refine ⟨by omega,?_⟩
     conv=>whnf
     refine ⟨_,by rw [show o+((0:Int)).toNat=o from rfl,List.getElem?_map,hx];rfl,?_⟩
     conv=>whnf
     repeat (refine gw rfl ?_;conv=>whnf)
     refine ⟨by simp only [Option.getD_none,Option.getD_some];omega,?_⟩
     conv=>whnf
     refine WP.weak (l':=⟨[(3,.d (.list (m.map fun r => .list (r.map enI)))),(4,.rsl 13 n),(5,.d (.int .i64 a)),(6,.sl 31 1 (o+1) (k-1)),(7,.d (.int .i64 x))],
      [((13,0),some (.rows 1 ((pO n m a).set a (s.map D.bool)) none)),((31,0),some (.arr 1 (xs.map enI)))],[13,31]⟩)
      [(13,some 13),(31,some 31)] [] ?_ ?_
     ·((conv=>whnf);repeat (first | exact ⟨⟩ | (refine ⟨by first | rfl | (simp;done) | (simp;omega),?_⟩;conv=>whnf)))
     repeat (refine gw rfl ?_;conv=>whnf)
     refine ⟨by omega,?_⟩
     rw [Int.toNat_natCast]
     conv=>whnf
     refine ⟨_,List.getElem?_set_self (by rw [dJ];omega),?_⟩
     conv=>whnf
     refine ⟨by rw [List.length_map,hd.len];omega,?_⟩
     conv=>whnf
     obtain ⟨b,hsx⟩:∃ b,s[x.toNat]?=some b:=⟨_,List.getElem?_eq_getElem (by rw [hd.len];omega)⟩
     refine ⟨_,by rw [Nat.zero_add,List.getElem?_map,hsx];rfl,?_⟩
     conv=>whnf
     have hl1:∀ y∈xs.drop (o+1),y∈xs.drop o:=fun y hy=>by rw [htk];simp [hy]
     have hl2:∀ y∈xs.drop o,y=x∨y∈xs.drop (o+1):=fun y hy=>by
      rw [htk] at hy
      simpa using hy
     refine W7 ?_ rfl;conv=>whnf
     cases b with
     | true=>
       conv=>whnf
       refine WP.back 13 43 ?_;conv=>whnf
       refine ⟨by rw [List.length_set,dJ];omega,?_⟩
       conv=>whnf
       rw [List.set_set]
       repeat (refine gw rfl ?_;conv=>whnf)
       refine ⟨(s,xs,o+1,k-1),[(13,some 13),(31,some 31)],[],?_,⟨hd.skip hl1 hl2 hsx,by dsimp only;omega,by dsimp only;omega⟩,by dsimp only;omega⟩
       ((conv=>whnf);repeat (first | exact ⟨⟩ | (refine ⟨by first | rfl | (simp;done) | (simp;omega),?_⟩;conv=>whnf)))
     | false=>
       conv=>whnf
       refine W1 ?_
       refine W2 hT hM [] ?_;conv=>whnf
       refine ⟨by omega,?_⟩
       rw [Int.toNat_natCast]
       conv=>whnf
       refine ⟨⟨rfl,by rw [List.length_set,dJ];omega⟩,?_⟩
       conv=>whnf
       refine ⟨by rw [List.length_map,hd.len];omega,?_⟩
       conv=>whnf
       refine ⟨rfl,_,by rw [Nat.zero_add,List.getElem?_map,hsx];rfl,?_⟩
       conv=>whnf
       refine .inl ⟨rfl,rfl,?_⟩
       rw [Nat.zero_add]
       conv=>whnf
       refine WP.back 13 43 ?_;conv=>whnf
       refine ⟨by rw [List.length_set,dJ];omega,?_⟩
       conv=>whnf
       rw [List.set_set,show (s.map D.bool).set x.toNat (D.bool true)=(s.set x.toNat true).map D.bool by rw [List.map_set]]
       refine WP.weak (l':=⟨[(3,.d (.list (m.map fun r => .list (r.map enI)))),(4,.rsl 13 n),(5,.d (.int .i64 a)),(6,.sl 31 1 (o+1) (k-1)),(7,.d (.int .i64 x))],
        [((13,0),some (.rows 1 ((pO n m a).set a ((s.set x.toNat true).map D.bool)) none)),((31,0),some (.arr 1 (xs.map enI)))],[13,31]⟩)
        [(13,some 13),(31,some 31)] [] ?_ ?_
       ·((conv=>whnf);repeat (first | exact ⟨⟩ | (refine ⟨by first | rfl | (simp;done) | (simp;omega),?_⟩;conv=>whnf)))
       refine W2 hT hM [] ?_;conv=>whnf
       have hnx:(m.map fun r=>D.list (r.map enI))[x.toNat]?=some (.list ((rowOf m (x.toNat:Nat)).map enI)):=by
        have:=WR (m:=m) (i:=x.toNat) (by omega)
        rwa [Int.toNat_natCast] at this
       refine ⟨by omega,_,hnx,rfl,?_⟩
       conv=>whnf
       refine ⟨_,by rw [← List.map_drop,← List.map_take],by rw [List.length_map];omega,?_⟩
       conv=>whnf
       refine ⟨hcell _,?_⟩
       conv=>whnf
       have hfl:=vZ hsx
       have hrx:=hrl (x.toNat:Nat)
       have hlen:((xs.drop (o+1)).take (k-1))=xs.drop (o+1):=List.take_of_length_le (by rw [List.length_drop];omega)
       rw [hlen]
       refine ⟨by show _*8≤_;simp only [List.length_map,List.length_drop];omega,?_⟩
       rw [show (List.map enI (xs.drop (o+1))).length+(List.map enI (rowOf m (x.toNat:Nat))).length=k-1+(rowOf m (x.toNat:Nat)).length by simp only [List.length_map,List.length_drop];omega,← List.map_append]
       conv=>whnf
       have hsum:k-1+(rowOf m (x.toNat:Nat)).length+bZ (s.set x.toNat true)*2048≤(n+1)*2048:=by omega
       refine ⟨(s.set x.toNat true,xs.drop (o+1)++rowOf m (x.toNat:Nat),0,k-1+(rowOf m (x.toNat:Nat)).length),[(13,some 13),(31,some 59)],[],?_,⟨?_,?_,hsum⟩,?_⟩
       ·((conv=>whnf);repeat (first | exact ⟨⟩ | (refine ⟨by first | rfl | (simp;done) | (simp;omega),?_⟩;conv=>whnf)))
       ·dsimp only
        rw [List.drop_zero,show ((x.toNat:Nat):Int)=x by omega]
        exact hd.visit hl1 hl2 hxm hxr
       ·dsimp only
        rw [List.length_append,List.length_drop];omega
       ·dsimp only;omega
    ·have hk0:k=0:=by simp at hb;omega
     subst hk0
     clear hb
     rw [List.drop_of_length_le (by omega)] at hd
     have hs:=hd.done hNX
     rw [hs,FK hlt]
     repeat (refine gw rfl ?_;conv=>whnf)
     refine ⟨by omega,?_⟩
     conv=>whnf
     refine ⟨a+1,[(13,some 13)],[],?_,by omega,by omega⟩
     ((conv=>whnf);repeat (first | exact ⟨⟩ | (refine ⟨by first | rfl | (simp;done) | (simp;omega),?_⟩;conv=>whnf)))
  ·have:a=n:=by simp at hb;omega
   subst this
   repeat (refine gw rfl ?_;conv=>whnf)
   rw [FM]
   rfl
end Go.Proofs.YtdonenoiehdahaaGreat
