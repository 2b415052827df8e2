/- Walks: what the atoms of a ground description depend on. -/
import Derived.Test.YtdonenoiehdahaaGreatTmGAnd
set_option linter.all false
namespace Go.Proofs.YtdonenoiehdahaaGreat
open Go Go.Abs Go.Own
attribute [local irreducible] WP
def dU (m:Own.Rows):List (List D):=m.map fun r=>r.map enI
theorem o8 {m:Own.Rows} {i:Nat} {r:List Int} (h:m[i]?=some r):(dU m)[i]?=some (r.map enI):=by unfold dU;rw [List.getElem?_map,h];rfl
theorem lG {m:Own.Rows} {i:Nat} (h:i<m.length):m[i]?=some (rowOf m (i:Nat)):=by
 unfold rowOf;rw [show ((i:Nat):Int).toNat=i by omega,List.getElem?_eq_getElem h];rfl
theorem Ah (n:Nat) (rules:List Gr):List.replicate n ([]:List D)=dU (aA n (rules.take 0)):=by simp [dU,aA]
theorem Wv (m:Own.Rows) (r:Gr) (i:Int):(rowOf (gG m r) i).length≤max (rowOf m i).length ((rowOf m r.1).length+r.2.1.length+r.2.2.length):=by
 unfold rowOf gG;by_cases e:r.1.toNat=i.toNat
 ·by_cases hl:r.1.toNat<m.length
  ·rw [← e,List.getElem?_set_self hl];simp only [Option.getD_some,List.length_append,rowOf];omega
  ·rw [List.set_eq_of_length_le (by omega)];omega
 ·rw [List.getElem?_set_ne e];omega
theorem qy {n k:Nat} {rules:List Gr} (h:∀ r∈rules,r.2.1.length+r.2.2.length≤k) (i:Int):(rowOf (aA n rules) i).length≤rules.length*k:=by
 have key:∀ (l:List Gr) (m:Own.Rows) (b:Nat),(∀ r∈l,r.2.1.length+r.2.2.length≤k)→(∀ i,(rowOf m i).length≤b)→∀ i,(rowOf (l.foldl gG m) i).length≤b+l.length*k:=fun l=>by
  induction l with
  | nil=>intro m b _ hb i;have:=hb i;simpa using this
  | cons r l ih=>
    intro m b hl hb i;rw [List.foldl_cons]
    have:=ih (gG m r) (b+k) (fun r' hr'=>hl r' (by simp [hr'])) (fun j=>by
     have h1:=Wv m r j;have h2:=hb j;have h3:=hb r.1;have h4:=hl r (by simp)
     omega) i
    rw [List.length_cons,Nat.succ_mul];omega
 have:=key rules (List.replicate n []) 0 h (fun i=>by
  unfold rowOf;rw [List.getElem?_replicate]
  split<;>simp) i
 unfold aA;omega
theorem C9 (m:Own.Rows) (r:Gr) (h:0≤r.1):(dU m).set r.1.toNat ((rowOf m (r.1.toNat:Nat)).map enI++r.2.1.map enI++r.2.2.map enI)=dU (gG m r):=by
 unfold dU gG;rw [List.map_set,List.map_append,List.map_append,show ((r.1.toNat:Nat):Int)=r.1 by omega]
noncomputable def qw (n:Nat) (m:Own.Rows) (a:Nat):List (List D):=(List.range n).map fun k=>if k<a then (tY n m (k:Nat)).map D.bool else []
theorem Dq (n:Nat) (m:Own.Rows):List.replicate n ([]:List D)=qw n m 0:=by
 unfold qw;refine List.ext_getElem (by simp) fun i h1 h2=>by simp
theorem G5 (n:Nat) (m:Own.Rows):(qw n m n).map D.list=(bg n m).map fun r => .list (r.map D.bool):=by
 unfold qw bg;rw [List.map_map,List.map_map];refine List.map_congr_left fun k hk=>?_
 simp [List.mem_range.1 hk]
theorem dO (n:Nat) (m:Own.Rows) (a:Nat):(qw n m a).length=n:=by simp [qw]
theorem GZ {n:Nat} {m:Own.Rows} {a:Nat} (h:a<n):(qw n m a).set a ((tY n m (a:Nat)).map D.bool)=qw n m (a+1):=by
 refine List.ext_getElem (by simp [qw]) fun i h1 h2=>?_
 rw [List.getElem_set];split
 ·rename_i e;subst e;simp [qw]
 ·rename_i e;simp only [qw,List.getElem_map,List.getElem_range];by_cases hi:i<a
  ·rw [if_pos hi,if_pos (by omega)]
  ·rw [if_neg hi,if_neg (by omega)]
theorem fZ (m:Own.Rows):(dU m).length=m.length:=by simp [dU]
theorem GU {m:Own.Rows} {j:Nat} (h:j<m.length):(dU m).set j ((rowOf m (j:Nat)).map enI)=dU m:=by
 refine List.ext_getElem? fun i=>?_
 by_cases e:j=i
 ·subst e;rw [List.getElem?_set_self (by rw [fZ];exact h),o8 (lG h)]
 ·rw [List.getElem?_set_ne e]
structure dZ (n:Nat) (rules:List Gr):Prop where
 head:∀ r∈rules,0≤r.1∧r.1<n
 body:∀ r∈rules,(∀ x∈r.2.1,0≤x∧x<(n:Int))∧∀ x∈r.2.2,0≤x∧x<(n:Int)
theorem Tryz.dependencies (atoms:List Tm) (rules:List Gr) (hi':dZ atoms.length rules) (hn:atoms.length≤64) (hr:rules.length≤128) (hf:∀ r∈rules,r.2.1.length+r.2.2.length≤16) :
  Pure Tryz.prog 41 [gD atoms rules] [.list ((bg atoms.length (aA atoms.length rules)).map fun r => .list (r.map D.bool))]:=by
 obtain ⟨n,hnn⟩:∃ n,atoms.length=n:=⟨_,rfl⟩
 rw [hnn] at hi' hn ⊢;refine Pure.of_wp hT (nt:=_) (c:=_) Tryz.func41 rfl rfl rfl rfl (by kernel_rfl) ?_;intro w0 ok0 β0;refine W1 ?_;refine W2 hT hM [] ?_;conv=>whnf
 refine W1 ?_;refine W2 hT hM [13] ?_;conv=>whnf
 rw [List.length_map,hnn];refine ⟨⟨by omega,by omega,by omega,by show ((24:Nat):Int)*(n:Int)≤281474976710656;omega⟩,?_⟩;rw [Int.toNat_natCast,Ah n rules];conv=>whnf
 repeat (refine gw rfl ?_;conv=>whnf)
 have hE:∀ i j,i≤rules.length→(rowOf (aA n (rules.take i)) j).length≤2048:=fun i j hi=>by
  have h1:=qy (n:=n) (rules:=rules.take i) (k:=16) (fun r hr'=>by have:=hf r (List.mem_of_mem_take hr');omega) j;rw [List.length_take] at h1;have h2:min i rules.length*16≤128*16:=Nat.mul_le_mul_right _ (by omega);omega
 have hcell:∀ (l:List Int) (y:D),y∈l.map enI→y.cells.length=1:=fun l y hy=>by
  obtain ⟨x,_,rfl⟩:=List.mem_map.1 hy;rfl
 have hlen0:∀ i,(dU (aA n (rules.take i))).length=n:=fun i=>by unfold dU;rw [List.length_map,bK]
 refine WP.loop (α:=Nat) (fun i=>⟨[(1,.d (.ref [.list (atoms.map enT),.list (rules.map enG)] 0)),(3,.rsl 13 n),(15,.d (.list (rules.map enG))),(16,.d (.int .i64 rules.length)),(17,.d (.int .i64 i))],[((13,0),some (.rows 1 (dU (aA n (rules.take i))) none))],[13]⟩)
  (fun i=>i≤rules.length) (fun i=>rules.length-i) 0 [(13,some 13)] [] ?_ ?_ ?_
 ·((conv=>whnf);repeat (first | exact ⟨⟩ | (refine ⟨by first | rfl | (simp;done) | (simp;omega),?_⟩;conv=>whnf)))
 ·exact Nat.zero_le _
 ·intro i hi;repeat (refine gw rfl ?_;conv=>whnf)
  (split<;>rename_i hb<;>(try rw [hb])<;>(conv=>whnf))
  ·have hlt:i<rules.length:=(by simpa using hb);clear hb;(repeat (refine gw rfl ?_;conv=>whnf));refine ⟨by omega,_,ay hlt,rfl,?_⟩;(conv=>whnf);have hm:=hi'.head rules[i] (List.getElem_mem hlt);have hrow:=lG (m:=aA n (rules.take i)) (i:=rules[i].1.toNat) (by rw [bK];omega);refine W2 hT hM [] ?_;(conv=>whnf);refine ⟨⟨hm.1,hm.2⟩,?_⟩;(conv=>whnf);refine ⟨_,o8 hrow,?_⟩;(conv=>whnf);refine ⟨_,by rw [List.drop_zero,List.take_length],by omega,?_⟩;(conv=>whnf);refine ⟨hcell _,?_⟩;(conv=>whnf);have hlt1:=hE i rules[i].1.toNat (by omega);have hlt2:=hf rules[i] (List.getElem_mem hlt);refine ⟨by show _*8≤_;rw [List.length_map,List.length_map];omega,?_⟩;(conv=>whnf);refine ⟨_,by rw [List.drop_zero,← List.length_append,List.take_length],by rw [List.length_append];omega,?_⟩;(conv=>whnf);refine ⟨hcell _,?_⟩;(conv=>whnf);refine ⟨by show _*8≤_;rw [List.length_append,List.length_map,List.length_map,List.length_map];omega,?_⟩;(conv=>whnf);refine ⟨⟨hm.1,hm.2⟩,?_⟩;(conv=>whnf);refine ⟨⟨by rw [hlen0];omega,rfl⟩,_,by rw [List.drop_zero,← List.length_append,List.take_length],by simp only [List.length_append];omega,?_⟩;(conv=>whnf);rw [C9 _ _ hm.1,← DI hlt];(repeat (refine gw rfl ?_;conv=>whnf));refine ⟨by omega,?_⟩;(conv=>whnf);refine ⟨i+1,[(13,some 13)],[],?_,by omega,by omega⟩;((conv=>whnf);repeat (first | exact ⟨⟩ | (refine ⟨by first | rfl | (simp;done) | (simp;omega),?_⟩;conv=>whnf)))
  ·have:i=rules.length:=(by simp at hb;omega);subst this;rw [List.take_length];clear hb;refine W6 ?_;(conv=>whnf);refine W1 ?_;refine W2 hT hM [40] ?_;(conv=>whnf);rw [List.length_map,hnn];refine ⟨⟨by omega,by omega,by omega,by show ((24:Nat):Int)*(n:Int)≤281474976710656;omega⟩,?_⟩;rw [Int.toNat_natCast,Dq n (aA n rules)];(conv=>whnf);(repeat (refine gw rfl ?_;conv=>whnf));refine WP.loop (α:=Nat) (fun a=>⟨[(1,.d (.ref [.list (atoms.map enT),.list (rules.map enG)] 0)),(3,.rsl 13 n),(6,.rsl 40 n),(42,.d (.int .i64 n)),(43,.d (.int .i64 a))],[((13,0),some (.rows 1 (dU (aA n rules)) none)),((40,0),some (.rows 1 (qw n (aA n rules) a) none))],[13,40]⟩)
    (fun a=>a≤n) (fun a=>n-a) 0 [(13,some 13),(40,some 40)] [] ?_ ?_ ?_
   ·((conv=>whnf);repeat (first | exact ⟨⟩ | (refine ⟨by first | rfl | (simp;done) | (simp;omega),?_⟩;conv=>whnf)))
   ·exact Nat.zero_le _
   ·intro a ha;(repeat (refine gw rfl ?_;conv=>whnf));(split<;>rename_i hb<;>(try rw [hb])<;>(conv=>whnf))
    ·have hlt:a<n:=(by simpa using hb);clear hb;(repeat (refine gw rfl ?_;conv=>whnf));rw [List.length_map,hnn];refine ⟨⟨by omega,by omega,by omega,by show ((1:Nat):Int)*(n:Int)≤281474976710656;omega⟩,?_⟩;rw [Int.toNat_natCast];(conv=>whnf);refine ⟨rfl,?_⟩;(conv=>whnf);refine ⟨by omega,?_⟩;rw [Int.toNat_natCast];(conv=>whnf);refine ⟨⟨by rw [dO];omega,trivial⟩,_,by rw [List.drop_zero,List.take_of_length_le (by simp)],by simp,?_⟩;(conv=>whnf);(repeat (refine gw rfl ?_;conv=>whnf));refine ⟨by omega,?_⟩;rw [Int.toNat_natCast];(conv=>whnf);refine ⟨_,o8 (lG (by rw [bK];omega)),?_⟩;(conv=>whnf);refine .inr ⟨_,_,_,_,_,_,Tryz.ZA (rowOf (aA n rules) (a:Nat)) (by have:=hE rules.length (a:Nat) (Nat.le_refl _);rw [List.take_length] at this;omega),[(0,56),(1,57)],[57],by rw [List.length_map];rfl,rfl,?_⟩;(conv=>whnf);refine ⟨rfl,?_⟩;(conv=>whnf);have hNX:Own.RowsIn n (aA n rules):=DJ hi'.body;have hrl:∀ j:Int,(rowOf (aA n rules) j).length≤2048:=fun j=>by
      have:=hE rules.length j (Nat.le_refl _);rwa [List.take_length] at this
     rw [show List.replicate n (D.bool false)=(List.replicate n false).map D.bool by simp];refine W3 ?_
     refine WP.loop (α:=List Bool×List Int×Nat×Nat) (fun y=>⟨[(1,.d (.ref [.list (atoms.map enT),.list (rules.map enG)] 0)),(3,.rsl 13 n),(6,.rsl 40 n),(7,.d (.int .i64 a)),(8,.sl 57 1 0 y.2.2.1),(42,.d (.int .i64 n)),(43,.d (.int .i64 a))],
       [((13,0),some (.rows 1 (dU (aA n rules)) (some (y.2.2.2,56)))),((56,0),some (.arr 1 ((rowOf (aA n rules) y.2.2.2).map enI))),((40,0),some (.rows 1 ((qw n (aA n rules) a).set a (y.1.map D.bool)) none)),((57,0),some (.arr 1 (y.2.1.map enI)))],[13,56,40,57]⟩)
      (fun y=>Dfs (aA n rules) n a y.1 (y.2.1.take y.2.2.1)∧y.2.2.1≤y.2.1.length∧y.2.2.1+dA y.1*2048≤(n+1)*2048∧y.2.2.2<n) (fun y=>dA y.1*4096+y.2.2.1)
      (List.replicate n false,rowOf (aA n rules) (a:Nat),(rowOf (aA n rules) (a:Nat)).length,a) [(13,some 13),(56,some 56),(40,some 40),(57,some 57)] [] ?_ ?_ ?_
     ·((conv=>whnf);repeat (first | exact ⟨⟩ | (refine ⟨by first | rfl | (simp;done) | (simp;omega),?_⟩;conv=>whnf)))
     ·refine ⟨by rw [List.take_length];exact Dfs.start _ _ _,Nat.le_refl _,?_,hlt⟩;have:=hrl (a:Nat);simp only [dn];omega
     ·rintro ⟨s,xs,k,j⟩ ⟨hd,hk,hsz,hj⟩;have hd':=hd;dsimp only at hd hk hsz hj ⊢;(repeat (refine gw rfl ?_;conv=>whnf));(split<;>rename_i hb<;>(try rw [hb])<;>(conv=>whnf))
      ·have hk0:0<k:=(by simpa using hb);clear hb;have hx:xs[k-1]?=some xs[k-1]:=List.getElem?_eq_getElem (by omega);have htk:xs.take k=xs.take (k-1)++[xs[k-1]]:=by
        have:=List.take_succ_eq_append_getElem (l:=xs) (i:=k-1) (by omega)
        rwa [Nat.sub_add_cancel hk0] at this
       generalize hxe:xs[k-1]=x at hx htk;have hxm:x∈xs.take k:=(by rw [htk];simp);have hxr:=(hd.todo x hxm).inR hNX;refine W5 ?_;(conv=>whnf);(repeat (refine gw rfl ?_;conv=>whnf));refine ⟨by omega,?_⟩;rw [show ((k:Nat):Int)-1=((k-1:Nat):Int) by omega];(conv=>whnf);refine ⟨by omega,?_⟩;rw [Int.toNat_natCast];(conv=>whnf);refine ⟨_,by rw [Nat.zero_add,List.getElem?_map,hx];rfl,?_⟩;(conv=>whnf);(repeat (refine gw rfl ?_;conv=>whnf));refine ⟨by omega,?_⟩;rw [show ((k:Nat):Int)-1=((k-1:Nat):Int) by omega];(conv=>whnf);refine ⟨by simp only [Option.getD_none,Option.getD_some];omega,?_⟩;conv=>whnf
       refine WP.weak (l':=⟨[(1,.d (.ref [.list (atoms.map enT),.list (rules.map enG)] 0)),(3,.rsl 13 n),(6,.rsl 40 n),(7,.d (.int .i64 a)),(8,.sl 57 1 0 (k-1)),(9,.d (.int .i64 x)),(42,.d (.int .i64 n)),(43,.d (.int .i64 a))],
        [((13,0),some (.rows 1 (dU (aA n rules)) (some (j,56)))),((56,0),some (.arr 1 ((rowOf (aA n rules) j).map enI))),((40,0),some (.rows 1 ((qw n (aA n rules) a).set a (s.map D.bool)) none)),((57,0),some (.arr 1 (xs.map enI)))],[13,56,40,57]⟩)
        [(13,some 13),(56,some 56),(40,some 40),(57,some 57)] [] ?_ ?_
       ·((conv=>whnf);repeat (first | exact ⟨⟩ | (refine ⟨by first | rfl | (simp;done) | (simp;omega),?_⟩;conv=>whnf)))
       (repeat (refine gw rfl ?_;conv=>whnf));refine ⟨by omega,?_⟩;rw [Int.toNat_natCast];(conv=>whnf);refine ⟨_,List.getElem?_set_self (by rw [dO];omega),?_⟩;(conv=>whnf);refine ⟨by rw [List.length_map,hd.len];omega,?_⟩;(conv=>whnf);obtain ⟨b,hsx⟩:∃ b,s[x.toNat]?=some b:=⟨_,List.getElem?_eq_getElem (by rw [hd.len];omega)⟩
       refine ⟨_,by rw [Nat.zero_add,List.getElem?_map,hsx];rfl,?_⟩;(conv=>whnf);have hl1:∀ y∈xs.take (k-1),y∈xs.take k:=fun y hy=>by rw [htk];simp [hy]
       have hl2:∀ y∈xs.take k,y=x∨y∈xs.take (k-1):=fun y hy=>by
        rw [htk] at hy
        simpa [or_comm] using hy
       refine W7 ?_ rfl;(conv=>whnf);cases b with
       | true=>
         (conv=>whnf);refine WP.back 40 75 ?_;(conv=>whnf);refine ⟨by rw [List.length_set,dO];omega,?_⟩;(conv=>whnf);rw [List.set_set];(repeat (refine gw rfl ?_;conv=>whnf));refine ⟨(s,xs,k-1,j),[(13,some 13),(56,some 56),(40,some 40),(57,some 57)],[],?_,⟨hd.skip hl1 hl2 hsx,by dsimp only;omega,by dsimp only;omega,hj⟩,by dsimp only;omega⟩;((conv=>whnf);repeat (first | exact ⟨⟩ | (refine ⟨by first | rfl | (simp;done) | (simp;omega),?_⟩;conv=>whnf)))
       | false=>
         (conv=>whnf);refine W1 ?_;refine W2 hT hM [] ?_;(conv=>whnf);refine ⟨by omega,?_⟩;rw [Int.toNat_natCast];(conv=>whnf);refine ⟨⟨rfl,by rw [List.length_set,dO];omega⟩,?_⟩;(conv=>whnf);refine ⟨by rw [List.length_map,hd.len];omega,?_⟩;(conv=>whnf);refine ⟨rfl,_,by rw [Nat.zero_add,List.getElem?_map,hsx];rfl,?_⟩;(conv=>whnf);refine .inl ⟨rfl,rfl,?_⟩;rw [Nat.zero_add];(conv=>whnf);refine WP.back 40 75 ?_;(conv=>whnf);refine ⟨by rw [List.length_set,dO];omega,?_⟩;(conv=>whnf);refine WP.back 13 56 ?_;(conv=>whnf);refine ⟨by rw [fZ,bK];exact hj,?_⟩;(conv=>whnf);rw [GU (by rw [bK];exact hj),List.set_set,show (s.map D.bool).set x.toNat (D.bool true)=(s.set x.toNat true).map D.bool by rw [List.map_set]]
         refine WP.weak (l':=⟨[(1,.d (.ref [.list (atoms.map enT),.list (rules.map enG)] 0)),(3,.rsl 13 n),(6,.rsl 40 n),(7,.d (.int .i64 a)),(8,.sl 57 1 0 (k-1)),(9,.d (.int .i64 x)),(42,.d (.int .i64 n)),(43,.d (.int .i64 a))],
          [((13,0),some (.rows 1 (dU (aA n rules)) none)),((40,0),some (.rows 1 ((qw n (aA n rules) a).set a ((s.set x.toNat true).map D.bool)) none)),((57,0),some (.arr 1 (xs.map enI)))],[13,40,57]⟩)
          [(13,some 13),(40,some 40),(57,some 57)] [] ?_ ?_
         ·((conv=>whnf);repeat (first | exact ⟨⟩ | (refine ⟨by first | rfl | (simp;done) | (simp;omega),?_⟩;conv=>whnf)))
         refine W2 hT hM [] ?_;(conv=>whnf);refine ⟨by omega,?_⟩;(conv=>whnf);refine ⟨_,o8 (lG (by rw [bK];omega)),?_⟩;(conv=>whnf);refine ⟨_,by rw [List.drop_zero,← List.map_take],by rw [List.length_map];omega,?_⟩;(conv=>whnf);refine ⟨_,by rw [List.drop_zero,List.take_length],by omega,?_⟩;(conv=>whnf);have hfl:=wY hsx;have hrx:=hrl (x.toNat:Nat);have hsum:k-1+(rowOf (aA n rules) (x.toNat:Nat)).length+dA (s.set x.toNat true)*2048≤(n+1)*2048:=(by omega);refine ⟨by show _*8≤_;simp only [List.length_map,List.length_take];omega,?_⟩;rw [show (List.map enI (xs.take (k-1))).length+(List.map enI (rowOf (aA n rules) (x.toNat:Nat))).length=k-1+(rowOf (aA n rules) (x.toNat:Nat)).length by simp only [List.length_map,List.length_take];omega,← List.map_append];(conv=>whnf);refine ⟨(s.set x.toNat true,xs.take (k-1)++rowOf (aA n rules) (x.toNat:Nat),k-1+(rowOf (aA n rules) (x.toNat:Nat)).length,x.toNat),[(13,some 13),(56,some 90),(40,some 40),(57,some 91)],[],?_,⟨?_,?_,hsum,by dsimp only;omega⟩,?_⟩
         ·((conv=>whnf);repeat (first | exact ⟨⟩ | (refine ⟨by first | rfl | (simp;done) | (simp;omega),?_⟩;conv=>whnf)))
         ·dsimp only;rw [List.take_of_length_le (by rw [List.length_append,List.length_take];omega),show ((x.toNat:Nat):Int)=x by omega];exact hd.visit hl1 hl2 hxm hxr
         ·dsimp only;rw [List.length_append,List.length_take];omega
         ·dsimp only;omega
      ·have hk0:k=0:=(by simpa using hb);subst hk0;clear hb;rw [List.take_zero] at hd;have hs:=hd.done hNX;refine W6 ?_;(conv=>whnf);refine WP.back 13 56 ?_;(conv=>whnf);refine ⟨by rw [fZ,bK];exact hj,?_⟩;(conv=>whnf);rw [GU (by rw [bK];exact hj),hs,GZ hlt];(conv=>whnf);(repeat (refine gw rfl ?_;conv=>whnf));refine ⟨by omega,?_⟩;(conv=>whnf);refine ⟨a+1,[(13,some 13),(40,some 40)],[],?_,by omega,by omega⟩;((conv=>whnf);repeat (first | exact ⟨⟩ | (refine ⟨by first | rfl | (simp;done) | (simp;omega),?_⟩;conv=>whnf)))
    ·have:a=n:=(by simp at hb;omega);subst this;(repeat (refine gw rfl ?_;conv=>whnf));rw [G5]
def enN (k:Nat):D := .int .i64 (k:Nat)
def enM (d:List (List Bool)):D := .list (d.map fun r => .list (r.map D.bool))
def rowB (d:List (List Bool)) (a:Nat):List Bool:=(d[a]?).getD []
def Square (n:Nat) (d:List (List Bool)):Prop:=d.length=n∧∀ r∈d,r.length=n
theorem Square.row {n:Nat} {d:List (List Bool)} (h:Square n d) {a:Nat} (ha:a<n):(rowB d a).length=n:=by
 unfold rowB;have hl:=h.1;rw [List.getElem?_eq_getElem (by omega)];exact h.2 _ (List.getElem_mem _)
theorem Square.at {n:Nat} {d:List (List Bool)} (h:Square n d) {a:Nat} (ha:a<n):(d.map fun r=>D.list (r.map D.bool))[((a:Nat):Int).toNat]?=some (.list ((rowB d a).map D.bool)):=by
 have hl:=h.1;rw [Int.toNat_natCast,List.getElem?_map];unfold rowB;rw [List.getElem?_eq_getElem (by omega)];rfl
theorem Square.at2 {n:Nat} {d:List (List Bool)} (h:Square n d) {a b:Nat} (ha:a<n) (hb:b<n):((rowB d a).map D.bool)[((b:Nat):Int).toNat]?=some (.bool (dAt d a b)):=by
 have hl:=h.row ha;rw [Int.toNat_natCast,List.getElem?_map];show Option.map _ (rowB d a)[b]?=some (D.bool (((rowB d a)[b]?).getD false));rw [List.getElem?_eq_getElem (by omega)];rfl
theorem He {l:List Bool} {b:Nat} (hb:b<l.length):(l.map D.bool)[((b:Nat):Int).toNat]?=some (.bool (jI l b)):=by
 rw [Int.toNat_natCast,List.getElem?_map];unfold jI;rw [List.getElem?_eq_getElem hb];rfl
theorem tZ (n:Nat) (m:Own.Rows):Square n (bg n m):=by
 refine ⟨by simp [bg],fun r hr=>?_⟩;obtain ⟨a,_,rfl⟩:=List.mem_map.1 hr;simp [tY]
def iW (d:List (List Bool)) (a b:Nat):List Nat:=(List.range b).filter (dF d a)
theorem gQ (d:List (List Bool)) (a b:Nat):iW d a (b+1)=if dF d a b then iW d a b++[b] else iW d a b:=by
 unfold iW;rw [List.range_succ,List.filter_append];by_cases h:dF d a b=true
 ·simp [h]
 ·simp [h]
set_option maxRecDepth 10000 in
theorem Tryz.ready (d:List (List Bool)) (n:Nat) (l:List Bool) (a:Nat) (hd:Square n d) (hl:l.length=n) (hn:n≤64) (ha:a<n) :
  aH Tryz.prog 42 [4,3,5,22] [.d (.int .i64 (a:Nat)),.ptr 4 0,.ptr 3 0,.ptr 5 0]
   [((4,0),.cell (.d (.int .i64 (n:Nat)))),((3,0),.cell (.d (enM d))),((5,0),.cell (.sl 22 1 0 n)),((22,0),.arr 1 (l.map D.bool))] []
   [.d (.list (match oz d n l a with | true=>(grp d n a).map enN | false=>[])),.d (.bool (oz d n l a))]
   [((4,0),.cell (.d (.int .i64 (n:Nat)))),((3,0),.cell (.d (enM d))),((5,0),.cell (.sl 22 1 0 n)),((22,0),.arr 1 (l.map D.bool))]:=by
 refine aH.of_wp hT (nt:=_) (c:=_) Tryz.func42 rfl rfl rfl rfl (by kernel_rfl) rfl rfl ?_;intro w0 ok0 wr β0;repeat (refine gw rfl ?_;conv=>whnf)
 refine WP.loop (α:=Nat) (fun b=>⟨[(0,.d (.int .i64 a)),(1,.ptr 4 0),(2,.ptr 3 0),(3,.ptr 5 0),(7,.sl 7 1 0 (iW d a b).length),(9,.d (.int .i64 n)),(10,.d (.int .i64 b))],
   [((4,0),some (.cell (.d (.int .i64 (n:Nat))))),((3,0),some (.cell (.d (enM d)))),((5,0),some (.cell (.sl 22 1 0 n))),((22,0),some (.arr 1 (l.map D.bool))),((7,0),some (.arr 1 ((iW d a b).map enN)))],[4,3,5,22,7]⟩)
  (fun b=>b≤n∧∀ c,c<b→fH d l a c=true) (fun b=>n-b) 0 [(4,some 4),(3,some 3),(5,some 5),(22,some 22),(7,none)] [] ?_ ?_ ?_
 ·((conv=>whnf);repeat (first | exact ⟨⟩ | (refine ⟨by first | rfl | (simp;done) | (simp;omega),?_⟩;conv=>whnf)))
 ·exact ⟨Nat.zero_le _,fun c hc=>by omega⟩
 ·rintro b ⟨hb0,hf⟩;repeat (refine gw rfl ?_;conv=>whnf)
  (split<;>rename_i hb<;>(try rw [hb])<;>(conv=>whnf))
  ·have hlt:b<n:=(by simpa using hb);clear hb;have hgl:(iW d a b).length≤b:=by
    have:=List.length_filter_le (dF d a) (List.range b)
    rwa [List.length_range] at this
   have yes:fH d l a b=true→∀ c,c<b+1→fH d l a c=true:=fun h c hc=>by
    rcases Nat.lt_or_ge c b with h1 | h1
    ·exact hf c h1
    ·obtain rfl:c=b:=by omega
     exact h
   (repeat (refine gw rfl ?_;conv=>whnf));by_cases e:a=b
   ·have hs:dF d a b=true:=(by unfold dF;simp [e]);rw [show (((a:Nat):Int)==((b:Nat):Int))=true by simp [e]];(conv=>whnf);(repeat (refine gw rfl ?_;conv=>whnf));refine ⟨rfl,?_⟩;(conv=>whnf);refine ⟨_,by rw [List.drop_zero,List.take_of_length_le (by simp)],by simp,?_⟩;(conv=>whnf);refine ⟨_,rfl,Nat.le_refl _,?_⟩;(conv=>whnf);refine ⟨by show (_+1)*8≤_;rw [List.length_map];omega,?_⟩;(conv=>whnf);(repeat (refine gw rfl ?_;conv=>whnf));refine ⟨by omega,?_⟩;(conv=>whnf);refine ⟨b+1,[(4,some 4),(3,some 3),(5,some 5),(22,some 22),(7,some 38)],[],?_,⟨by omega,yes (by unfold fH;rw [hs];rfl)⟩,by omega⟩;have hg:iW d a (b+1)=iW d a b++[b]:=(by rw [gQ,if_pos hs]);rw [hg]
    (try rw [List.map_append,show List.map enN [b]=[D.int .i64 (b:Nat)] from rfl])
    ((conv=>whnf);repeat (first | exact ⟨⟩ | (refine ⟨by first | rfl | (simp;done) | (simp;omega),?_⟩;conv=>whnf)))
   ·rw [show (((a:Nat):Int)==((b:Nat):Int))=false from decide_eq_false (by omega)];(conv=>whnf);refine ⟨by omega,_,hd.at ha,rfl,?_⟩;(conv=>whnf);refine ⟨by omega,_,hd.at2 ha hlt,rfl,?_⟩;(conv=>whnf);cases h1:dAt d a b with
    | false=>
      have hs:dF d a b=false:=(by unfold dF;simp [e,h1]);have hfi:fH d l a b=true:=(by unfold fH;simp [h1]);(conv=>whnf);(repeat (refine gw rfl ?_;conv=>whnf));refine ⟨by omega,_,hd.at ha,rfl,?_⟩;(conv=>whnf);refine ⟨by omega,_,hd.at2 ha hlt,rfl,?_⟩;(conv=>whnf);rw [h1];(conv=>whnf);(repeat (refine gw rfl ?_;conv=>whnf));refine ⟨by omega,?_⟩;(conv=>whnf);refine ⟨b+1,[(4,some 4),(3,some 3),(5,some 5),(22,some 22),(7,some 7)],[],?_,⟨by omega,yes hfi⟩,by omega⟩;have hg:iW d a (b+1)=iW d a b:=(by rw [gQ,hs];rfl);rw [hg]
      (try rw [List.map_append,show List.map enN [b]=[D.int .i64 (b:Nat)] from rfl])
      ((conv=>whnf);repeat (first | exact ⟨⟩ | (refine ⟨by first | rfl | (simp;done) | (simp;omega),?_⟩;conv=>whnf)))
    | true=>
      (conv=>whnf);refine ⟨by omega,_,hd.at hlt,rfl,?_⟩;(conv=>whnf);refine ⟨by omega,_,hd.at2 hlt ha,rfl,?_⟩;(conv=>whnf);cases h2:dAt d b a with
      | true=>
        have hs:dF d a b=true:=(by unfold dF;simp [h1,h2]);(conv=>whnf);(repeat (refine gw rfl ?_;conv=>whnf));refine ⟨rfl,?_⟩;(conv=>whnf);refine ⟨_,by rw [List.drop_zero,List.take_of_length_le (by simp)],by simp,?_⟩;(conv=>whnf);refine ⟨_,rfl,Nat.le_refl _,?_⟩;(conv=>whnf);refine ⟨by show (_+1)*8≤_;rw [List.length_map];omega,?_⟩;(conv=>whnf);(repeat (refine gw rfl ?_;conv=>whnf));refine ⟨by omega,?_⟩;(conv=>whnf);refine ⟨b+1,[(4,some 4),(3,some 3),(5,some 5),(22,some 22),(7,some 38)],[],?_,⟨by omega,yes (by unfold fH;rw [hs];rfl)⟩,by omega⟩;have hg:iW d a (b+1)=iW d a b++[b]:=(by rw [gQ,if_pos hs]);rw [hg]
        (try rw [List.map_append,show List.map enN [b]=[D.int .i64 (b:Nat)] from rfl])
        ((conv=>whnf);repeat (first | exact ⟨⟩ | (refine ⟨by first | rfl | (simp;done) | (simp;omega),?_⟩;conv=>whnf)))
      | false=>
        have hs:dF d a b=false:=(by unfold dF;simp [e,h2]);(conv=>whnf);(repeat (refine gw rfl ?_;conv=>whnf));refine ⟨by omega,_,hd.at ha,rfl,?_⟩;(conv=>whnf);refine ⟨by omega,_,hd.at2 ha hlt,rfl,?_⟩;(conv=>whnf);rw [h1];(conv=>whnf);refine ⟨by omega,?_⟩;(conv=>whnf);refine ⟨_,by rw [Nat.zero_add];exact He (by omega),?_⟩;(conv=>whnf);cases h3:jI l b with
        | true=>
          have hfi:fH d l a b=true:=(by unfold fH;simp [h3]);(conv=>whnf);(repeat (refine gw rfl ?_;conv=>whnf));refine ⟨by omega,?_⟩;(conv=>whnf);refine ⟨b+1,[(4,some 4),(3,some 3),(5,some 5),(22,some 22),(7,some 7)],[],?_,⟨by omega,yes hfi⟩,by omega⟩;have hg:iW d a (b+1)=iW d a b:=(by rw [gQ,hs];rfl);rw [hg]
          (try rw [List.map_append,show List.map enN [b]=[D.int .i64 (b:Nat)] from rfl])
          ((conv=>whnf);repeat (first | exact ⟨⟩ | (refine ⟨by first | rfl | (simp;done) | (simp;omega),?_⟩;conv=>whnf)))
        | false=>
          have hr:oz d n l a=false:=by
           unfold oz;rw [List.all_eq_false];exact ⟨b,List.mem_range.2 hlt,by unfold fH;simp [hs,h1,h3]⟩
          rw [hr];(conv=>whnf);(repeat (refine gw rfl ?_;conv=>whnf));refine ⟨[(4,some 4),(3,some 3),(5,some 5),(22,some 22)],[],?_,rfl⟩;((conv=>whnf);repeat (first | exact ⟨⟩ | (refine ⟨by first | rfl | (simp;done) | (simp;omega),?_⟩;conv=>whnf)))
  ·have:b=n:=(by simp at hb;omega);subst this;have hr:oz d b l a=true:=List.all_eq_true.2 fun c hc=>hf c (List.mem_range.1 hc)
   rw [hr];clear hb;(repeat (refine gw rfl ?_;conv=>whnf));refine ⟨[(4,some 4),(3,some 3),(5,some 5),(22,some 22)],[7],?_,rfl⟩;((conv=>whnf);repeat (first | exact ⟨⟩ | (refine ⟨by first | rfl | (simp;done) | (simp;omega),?_⟩;conv=>whnf)));refine ⟨(iW d a b).map enN,by rw [List.drop_zero,List.take_of_length_le (by simp)],by simp,rfl,?_⟩;((conv=>whnf);repeat (first | exact ⟨⟩ | (refine ⟨by first | rfl | (simp;done) | (simp;omega),?_⟩;conv=>whnf)))
def dH (out:List (List Nat)):List D:=out.map fun g => .list (g.map enN)
theorem eP {atoms:List Tm} {rules:List Gr} (h:aK atoms rules=true):dZ atoms.length rules:=by
 have key:∀ r∈rules,jf atoms.length r=true:=fun r hr=>by
  unfold aK at h;simp only [Bool.and_eq_true] at h;obtain ⟨i,hi,rfl⟩:=List.mem_iff_getElem.1 hr;have:=jo.1 h.2 i hi;rw [lF hi,Bool.and_eq_true] at this;exact this.1
 refine ⟨fun r hr=>?_,fun r hr=>?_⟩
 ·have:=key r hr;unfold jf jJ at this;simp only [Bool.and_eq_true,decide_eq_true_eq] at this;omega
 ·have:=key r hr;unfold jf at this;simp only [Bool.and_eq_true] at this;exact ⟨rZ this.1.2,rZ this.2⟩
structure GSt where
 l:List Bool
 out:List (List Nat)
 a:Nat
 k:Nat
 m:Nat
structure GOk (d:List (List Bool)) (n:Nat) (x:GSt):Prop where
 len:x.l.length=n
 fuel:dA x.l<x.k
 run:wI d n x.k x.l x.out=aQ d n
 before:∀ c,c<x.a→lD d n x.l c=false
 le:x.a≤n
 cnt:x.out.length+dA x.l≤n
theorem xZ {l:List Bool} {g:List Nat} {i:Nat} (h:i<g.length):bM l (g.take (i+1))=(bM l (g.take i)).set g[i] true:=by
 unfold bM;rw [List.take_succ_eq_append_getElem h,List.foldl_append];rfl
theorem Tt (l:List Bool):dA l≤l.length:=List.count_le_length
theorem Pg {n a:Nat} {p:Nat→Bool} (h:∀ c,c<a→p c=false) (ha:a<n) (hp:p a=true):(List.range n).find? p=some a:=by
 rw [List.find?_range_eq_some];exact ⟨hp,List.mem_range.2 ha,fun j hj=>by rw [h j hj];rfl⟩
theorem GL {d:List (List Bool)} {n k:Nat} {l:List Bool} {out:List (List Nat)} (hk:0<k) (h:∀ c,c<n→lD d n l c=false):wI d n k l out=out:=by
 cases k with
 | zero=>omega
 | succ k=>
   unfold wI;rw [List.find?_eq_none.2 fun c hc=>by rw [h c (List.mem_range.1 hc)];simp]
theorem GH {d:List (List Bool)} {n k a:Nat} {l:List Bool} {out:List (List Nat)} (ha:a<n) (hc:lD d n l a=true) (h:∀ c,c<a→lD d n l c=false):wI d n (k+1) l out=wI d n k (bM l (grp d n a)) (out++[grp d n a]):=by
 conv=>lhs;unfold wI
 rw [Pg h ha hc]
theorem Tryz.groups (atoms:List Tm) (rules:List Gr) (hok:∀ x∈atoms,okT x) (hv:aK atoms rules=true) (hn:atoms.length≤64) (hr:rules.length≤128) (hf:∀ r∈rules,r.2.1.length+r.2.2.length≤16) :
  Pure Tryz.prog 12 [gD atoms rules] [.list (dH (aQ (bg atoms.length (aA atoms.length rules)) atoms.length))]:=by
 have hfit:zJ rules:=fun r h=>by have:=hf r h;omega
 refine Pure.of_wp hT (nt:=_) (c:=_) Tryz.func12 rfl rfl rfl rfl (by kernel_rfl) ?_;intro w0 ok0 β0;repeat (refine gw rfl ?_;conv=>whnf)
 refine .inl ⟨_,Tryz.Ce atoms rules hok hfit,.inl rfl,?_⟩;rw [hv];conv=>whnf
 repeat (refine gw rfl ?_;conv=>whnf)
 refine .inl ⟨_,Tryz.dependencies atoms rules (eP hv) hn hr hf,.inl rfl,?_⟩;conv=>whnf
 obtain ⟨n,hnn⟩:∃ n,atoms.length=n:=⟨_,rfl⟩
 rw [hnn];generalize hD:bg n (aA n rules)=d;have hsq:Square n d:=hD ▸ tZ n (aA n rules);repeat (refine gw rfl ?_;conv=>whnf)
 refine ⟨rfl,?_⟩;conv=>whnf
 repeat (refine gw rfl ?_;conv=>whnf)
 refine ⟨rfl,?_⟩;conv=>whnf
 repeat (refine gw rfl ?_;conv=>whnf)
 rw [List.length_map,hnn];refine ⟨⟨by omega,by omega,by omega,by show ((1:Nat):Int)*(n:Int)≤281474976710656;omega⟩,?_⟩;rw [Int.toNat_natCast];conv=>whnf
 refine ⟨rfl,?_⟩;conv=>whnf
 repeat (refine gw rfl ?_;conv=>whnf)
 refine WP.loop (α:=GSt) (fun x=>⟨[(3,.ptr 3 0),(4,.ptr 4 0),(5,.ptr 5 0),(6,.func (.func 42) [] [.ptr 4 0,.ptr 3 0,.ptr 5 0]),(7,.sl 7 1 0 x.out.length),(8,.d (.int .i64 x.a))],
   [((3,0),some (.cell (.d (enM d)))),((4,0),some (.cell (.d (.int .i64 n)))),((5,0),some (.cell (.sl 22 1 0 n))),((22,0),some (.arr 1 (x.l.map D.bool))),((7,0),some (.arr 1 (dH x.out)))],[3,4,5,22,7]⟩)
  (GOk d n) (fun x=>dA x.l*(n+1)+(n-x.a)) ⟨List.replicate n false,[],0,n+1,0⟩ [(3,some 3),(4,some 4),(5,some 5),(22,some 22),(7,none)] [] ?_ ?_ ?_
 ·rw [show List.replicate n (D.bool false)=(List.replicate n false).map D.bool by simp];((conv=>whnf);repeat (first | exact ⟨⟩ | (refine ⟨by first | rfl | (simp;done) | (simp;omega),?_⟩;conv=>whnf)))
 ·exact ⟨by simp,by simp only [dn];omega,rfl,fun c hc=>by simp only at hc;omega,Nat.zero_le _,by simp [dn]⟩
 ·rintro ⟨l,out,a,k,_⟩ ⟨hl,hfu,hrun,hbe,hle,hcnt⟩;dsimp only at hl hfu hrun hbe hle hcnt ⊢;repeat (refine gw rfl ?_;conv=>whnf)
  (split<;>rename_i hb<;>(try rw [hb])<;>(conv=>whnf))
  ·have hlt:a<n:=(by simpa using hb);clear hb;(repeat (refine gw rfl ?_;conv=>whnf));refine ⟨by omega,?_⟩;rw [Int.toNat_natCast];(conv=>whnf);refine ⟨_,by rw [Nat.zero_add,← Int.toNat_natCast a];exact He (by omega),?_⟩;(conv=>whnf);refine W7 ?_ rfl;(conv=>whnf);cases hla:jI l a with
   | true=>
     have hc:lD d n l a=false:=(by unfold lD;rw [hla];rfl);(conv=>whnf);(repeat (refine gw rfl ?_;conv=>whnf));refine ⟨by omega,?_⟩;(conv=>whnf);refine ⟨⟨l,out,a+1,k,0⟩,[(3,some 3),(4,some 4),(5,some 5),(22,some 22),(7,some 7)],[],?_,⟨hl,hfu,hrun,fun c h=>?_,by dsimp only;omega,hcnt⟩,by dsimp only;omega⟩
     ·((conv=>whnf);repeat (first | exact ⟨⟩ | (refine ⟨by first | rfl | (simp;done) | (simp;omega),?_⟩;conv=>whnf)))
     ·dsimp only at h;rcases Nat.lt_or_ge c a with h1 | h1
      ·exact hbe c h1
      ·rw [show c=a by omega];exact hc
   | false=>
     (conv=>whnf);(repeat (refine gw rfl ?_;conv=>whnf));refine .inr ⟨_,_,_,_,_,_,Tryz.ready d n l a hsq hl (by omega) hlt,[(4,4),(3,3),(5,5),(22,22)],[],rfl,rfl,?_⟩;(conv=>whnf);refine ⟨rfl,rfl,rfl,rfl,?_⟩;(conv=>whnf);refine W1 ?_;refine W2 hT hM [] ?_;(conv=>whnf);refine W7 ?_ rfl;(conv=>whnf);cases hrd:oz d n l a with
     | false=>
       have hc:lD d n l a=false:=(by unfold lD;rw [hla,hrd];rfl);(conv=>whnf);(repeat (refine gw rfl ?_;conv=>whnf));refine ⟨by omega,?_⟩;(conv=>whnf);refine ⟨⟨l,out,a+1,k,0⟩,[(3,some 3),(4,some 4),(5,some 5),(22,some 22),(7,some 7)],[],?_,⟨hl,hfu,hrun,fun c h=>?_,by dsimp only;omega,hcnt⟩,by dsimp only;omega⟩
       ·((conv=>whnf);repeat (first | exact ⟨⟩ | (refine ⟨by first | rfl | (simp;done) | (simp;omega),?_⟩;conv=>whnf)))
       ·dsimp only at h;rcases Nat.lt_or_ge c a with h1 | h1
        ·exact hbe c h1
        ·rw [show c=a by omega];exact hc
     | true=>
       have hc:lD d n l a=true:=(by unfold lD;rw [hla,hrd];rfl);(conv=>whnf);have hgl:(grp d n a).length≤64:=by
        have:=List.length_filter_le (dF d a) (List.range n);rw [List.length_range] at this;show ((List.range n).filter _).length≤64;omega
       have hll:=Tt l
       refine WP.weak (l':=⟨[(3,.ptr 3 0),(4,.ptr 4 0),(5,.ptr 5 0),(6,.func (.func 42) [] [.ptr 4 0,.ptr 3 0,.ptr 5 0]),(7,.sl 7 1 0 out.length),(9,.d (.list ((grp d n a).map enN)))],
        [((3,0),some (.cell (.d (enM d)))),((4,0),some (.cell (.d (.int .i64 n)))),((5,0),some (.cell (.sl 22 1 0 n))),((22,0),some (.arr 1 (l.map D.bool))),((7,0),some (.arr 1 (dH out)))],[3,4,5,22,7]⟩)
        [(3,some 3),(4,some 4),(5,some 5),(22,some 22),(7,some 7)] [] ?_ ?_
       ·((conv=>whnf);repeat (first | exact ⟨⟩ | (refine ⟨by first | rfl | (simp;done) | (simp;omega),?_⟩;conv=>whnf)))
       (repeat (refine gw rfl ?_;conv=>whnf));refine ⟨rfl,?_⟩;(conv=>whnf);refine ⟨_,by rw [List.drop_zero,List.take_of_length_le (by simp [dH])],by simp [dH],?_⟩;(conv=>whnf);refine ⟨_,rfl,Nat.le_refl _,?_⟩;(conv=>whnf);refine ⟨by show (_+1)*24≤_;simp only [dH,List.length_map];omega,?_⟩;(conv=>whnf);repeat (refine gw rfl ?_;conv=>whnf)
       refine WP.loop (α:=Nat) (fun i=>⟨[(3,.ptr 3 0),(4,.ptr 4 0),(5,.ptr 5 0),(6,.func (.func 42) [] [.ptr 4 0,.ptr 3 0,.ptr 5 0]),(7,.sl 7 1 0 (out.length+1)),(44,.d (.list ((grp d n a).map enN))),(45,.d (.int .i64 (grp d n a).length)),(46,.d (.int .i64 i))],
        [((3,0),some (.cell (.d (enM d)))),((4,0),some (.cell (.d (.int .i64 n)))),((5,0),some (.cell (.sl 22 1 0 n))),((22,0),some (.arr 1 ((bM l ((grp d n a).take i)).map D.bool))),((7,0),some (.arr 1 (dH (out++[grp d n a]))))],[3,4,5,22,7]⟩)
        (fun i=>i≤(grp d n a).length) (fun i=>(grp d n a).length-i) 0 [(3,some 3),(4,some 4),(5,some 5),(22,some 22),(7,some 43)] [] ?_ ?_ ?_
       ·rw [List.length_map];rw [show (dH out).length+(List.take [D.list ((grp d n a).map enN)].length (List.drop 0 [D.list ((grp d n a).map enN)])).length=out.length+1 by simp [dH],show dH out++List.take [D.list ((grp d n a).map enN)].length (List.drop 0 [D.list ((grp d n a).map enN)])=dH (out++[grp d n a]) by simp [dH]];((conv=>whnf);repeat (first | exact ⟨⟩ | (refine ⟨by first | rfl | (simp;done) | (simp;omega),?_⟩;conv=>whnf)))
       ·exact Nat.zero_le _
       ·intro i hi;(repeat (refine gw rfl ?_;conv=>whnf));(split<;>rename_i hb<;>(try rw [hb])<;>(conv=>whnf))
        ·have hig:i<(grp d n a).length:=(by simpa using hb);clear hb;have hxn:(grp d n a)[i]<n:=(cO.1 (List.getElem_mem hig)).1;(repeat (refine gw rfl ?_;conv=>whnf));refine ⟨by omega,_,ay hig,rfl,?_⟩;(conv=>whnf);(repeat (refine gw rfl ?_;conv=>whnf));refine ⟨⟨by omega,by omega⟩,?_⟩;(conv=>whnf);refine ⟨rfl,_,by rw [Nat.zero_add];exact He (by rw [fG];omega),?_⟩;(conv=>whnf);refine .inl ⟨rfl,rfl,?_⟩;(conv=>whnf);(repeat (refine gw rfl ?_;conv=>whnf));refine ⟨by omega,?_⟩;(conv=>whnf);refine ⟨i+1,[(3,some 3),(4,some 4),(5,some 5),(22,some 22),(7,some 7)],[],?_,by omega,by omega⟩;rw [show ((bM l ((grp d n a).take i)).map D.bool).set (0+((((grp d n a)[i]:Nat):Int)).toNat) (D.bool true)=(bM l ((grp d n a).take (i+1))).map D.bool by rw [xZ hig,List.map_set];simp];((conv=>whnf);repeat (first | exact ⟨⟩ | (refine ⟨by first | rfl | (simp;done) | (simp;omega),?_⟩;conv=>whnf)))
        ·have:i=(grp d n a).length:=(by simp at hb;omega);subst this;clear hb;rw [List.take_length];have hga:a∈grp d n a:=cO.2 ⟨hlt,by simp [dF]⟩;have hla':l[a]?=some false:=by
          have:=hla;unfold jI at this;rw [List.getElem?_eq_getElem (by omega)] at this ⊢
          simpa using this
         have hmk:=gZ (grp d n a) l a hga hla';have hmul:=Nat.mul_le_mul_right (n+1) (Nat.succ_le_of_lt hmk);rw [Nat.succ_mul] at hmul;(repeat (refine gw rfl ?_;conv=>whnf));refine ⟨by decide,?_⟩;(conv=>whnf);obtain ⟨k',rfl⟩:∃ k',k=k'+1:=⟨k-1,by omega⟩
         rw [GH hlt hc hbe] at hrun;refine ⟨⟨bM l (grp d n a),out++[grp d n a],0,k',0⟩,[(3,some 3),(4,some 4),(5,some 5),(22,some 22),(7,some 7)],[],?_,⟨by rw [fG];exact hl,by dsimp only;omega,hrun,fun c h=>by dsimp only at h;omega,Nat.zero_le _,by dsimp only;rw [List.length_append];simp only [List.length_singleton];omega⟩,by dsimp only;omega⟩;rw [show (out++[grp d n a]).length=out.length+1 by simp];((conv=>whnf);repeat (first | exact ⟨⟩ | (refine ⟨by first | rfl | (simp;done) | (simp;omega),?_⟩;conv=>whnf)))
  ·have:a=n:=(by simp at hb;omega);subst this;rw [GL (by omega) hbe] at hrun;clear hb;(repeat (refine gw rfl ?_;conv=>whnf));refine ⟨_,by rw [List.drop_zero,List.take_of_length_le (by simp [dH])],by simp [dH],?_⟩;(conv=>whnf);rw [hrun]
end Go.Proofs.YtdonenoiehdahaaGreat
namespace Go.Own
def Cj (most:Int) (p:Tm→Int):Int→List Tm→Int
 | n,[]=>n
 | n,x::l=>if most<n then n else Cj most p (n+p x) l
def iy (most:Int):Nat→Tm→Int
 | 0,_=>most+1
 | d+1,t=>Cj most (iy most d) 1 t.args
theorem Ci {most b:Int} {p:Tm→Int} (hp:∀ x,1≤p x∧p x≤b) (hm:0≤most):∀ (l:List Tm) (n:Int),1≤n→n≤most+b→0≤b→1≤Cj most p n l∧Cj most p n l≤most+b
 | [],n,h1,h2,_=>⟨h1,h2⟩
 | x::l,n,h1,h2,h3=>by
   unfold Cj;split
   ·exact ⟨h1,h2⟩
   ·have:=hp x;exact Ci hp hm l _ (by omega) (by omega) h3
theorem qp {most:Int} (hm:0≤most):∀ (d:Nat) (t:Tm),1≤iy most d t∧iy most d t≤(d+1)*(most+1)
 | 0,t=>by unfold iy;refine ⟨by omega,by simp⟩
 | d+1,t=>by
   have ih:=qp hm d;have hb:((d+1:Nat)+1:Int)*(most+1)=(most+1)+(d+1)*(most+1):=by
    rw [show ((d+1:Nat)+1:Int)=(d+1)+1 by omega,Int.add_mul];omega
   have h0:(0:Int)≤(d+1)*(most+1):=Int.mul_nonneg (by omega) (by omega)
   have:=Ci (p:=iy most d) (b:=(d+1)*(most+1)) ih hm t.args 1 (Int.le_refl _) (by
    have:=ih t;omega) h0
   unfold iy;omega
def wF (most:Int) (t:Tm):Bool:=decide (iy most most.toNat t≤most)
def jk (most:Int) (l:List Tm):Bool:=decide ((l.length:Int)≤most)&&l.all (wF most)
def qj (atoms:List Tm) (rules:List Gr):Bool:=jk 60 atoms&&decide (rules.length≤80)&&rules.all fun r=>decide (r.2.1.length+r.2.2.length≤12)
end Go.Own
namespace Go.Proofs.YtdonenoiehdahaaGreat
open Go Go.Abs Go.Own
attribute [local irreducible] WP
theorem Jj (most:Nat) (hm:most≤1000) (d:Nat) (hd:d≤1000) (t:Tm):1≤iy most d t∧iy most d t≤1002001:=by
 obtain ⟨h1,h2⟩:=qp (most:=(most:Nat)) (by omega) d t;have:((d:Int)+1)*((most:Int)+1)≤1001*1001:=Int.mul_le_mul (by omega) (by omega) (by omega) (by decide);omega
theorem Tryz.parts (most:Nat) (hm:most≤1000):∀ (d:Nat),d≤1000→∀ t:Tm,okT t→Pure Tryz.prog 65 [tD t.name t.args,.int .i64 most,.int .i64 d] [.int .i64 (iy most d t)]:=by
 intro d
 induction d with
 | zero=>
   intro _ t _;refine Pure.of_wp hT (nt:=_) (c:=_) Tryz.func65 rfl rfl rfl rfl (by kernel_rfl) ?_;intro w0 ok0 β0;(repeat (refine gw rfl ?_;conv=>whnf));rw [show decide (((0:Nat):Int)<1)=true from rfl];(conv=>whnf);(repeat (refine gw rfl ?_;conv=>whnf));refine ⟨by omega,?_⟩;(conv=>whnf);(repeat (refine gw rfl ?_;conv=>whnf));rw [iy]
 | succ d ih=>
   intro hd t ht;have hok:=aW.1 ht;refine Pure.of_wp hT (nt:=_) (c:=_) Tryz.func65 rfl rfl rfl rfl (by kernel_rfl) ?_;intro w0 ok0 β0;(repeat (refine gw rfl ?_;conv=>whnf));rw [show decide (((d+1:Nat):Int)<1)=false from decide_eq_false (by omega)];(conv=>whnf);(repeat (refine gw rfl ?_;conv=>whnf));refine WP.loop (α:=Nat×Int) (fun x=>⟨[(1,.d (.int .i64 most)),(2,.d (.int .i64 (d+1:Nat))),(3,.d (.ref [.str t.name,.list (t.args.map enT)] 0)),(7,.d (.int .i64 x.2)),(14,.d (.list (t.args.map enT))),(15,.d (.int .i64 t.args.length)),(16,.d (.int .i64 x.1))],[],[]⟩)
    (fun x=>x.1≤t.args.length∧1≤x.2∧x.2≤most+1002001∧iy most (d+1) t=Cj most (iy most d) x.2 (t.args.drop x.1)) (fun x=>t.args.length-x.1) (0,1) [] [] ?_ ?_ ?_
   ·((conv=>whnf);repeat (first | exact ⟨⟩ | (refine ⟨by first | rfl | (simp;done) | (simp;omega),?_⟩;conv=>whnf)))
   ·exact ⟨Nat.zero_le _,Int.le_refl _,by omega,rfl⟩
   ·rintro ⟨i,n⟩ ⟨hi,h1,h2,h3⟩;dsimp only at hi h1 h2 h3 ⊢;(repeat (refine gw rfl ?_;conv=>whnf));(split<;>rename_i hb<;>(try rw [hb])<;>(conv=>whnf))
    ·have hlt:i<t.args.length:=(by simpa using hb);clear hb;rw [List.drop_eq_getElem_cons hlt,Cj] at h3;(repeat (refine gw rfl ?_;conv=>whnf));(split<;>rename_i hb<;>(try rw [hb])<;>(conv=>whnf))
     ·have hn:(most:Int)<n:=(by simpa using hb);rw [if_pos hn] at h3;(repeat (refine gw rfl ?_;conv=>whnf));rw [h3]
     ·have hn:¬ (most:Int)<n:=(by simpa using hb);rw [if_neg hn] at h3;have hp:=Jj most hm d (by omega) t.args[i];(repeat (refine gw rfl ?_;conv=>whnf));refine ⟨by omega,_,dB hlt,rfl,?_⟩;(conv=>whnf);refine ⟨by omega,?_⟩;rw [show ((d+1:Nat):Int)-1=(d:Nat) by omega];(conv=>whnf);refine .inl ⟨_,ih (by omega) t.args[i] (hok.2 _ (List.getElem_mem hlt)),.inl rfl,?_⟩;(conv=>whnf);(repeat (refine gw rfl ?_;conv=>whnf));refine ⟨by omega,?_⟩;(conv=>whnf);(repeat (refine gw rfl ?_;conv=>whnf));refine ⟨by omega,?_⟩;(conv=>whnf);refine ⟨(i+1,n+iy most d t.args[i]),[],[],?_,⟨by dsimp only;omega,by dsimp only;omega,by dsimp only;omega,h3⟩,by dsimp only;omega⟩;((conv=>whnf);repeat (first | exact ⟨⟩ | (refine ⟨by first | rfl | (simp;done) | (simp;omega),?_⟩;conv=>whnf)))
    ·have:i=t.args.length:=(by simp at hb;omega);subst this;rw [List.drop_length,Cj] at h3;(repeat (refine gw rfl ?_;conv=>whnf));rw [h3]
theorem Tryz.WL (most:Nat) (hm:most≤1000) (t:Tm) (ht:okT t):Pure Tryz.prog 24 [tD t.name t.args,.int .i64 most] [.bool (wF most t)]:=by
 refine Pure.of_wp hT (nt:=_) (c:=_) Tryz.func24 rfl rfl rfl rfl (by kernel_rfl) ?_;intro w0 ok0 β0;repeat (refine gw rfl ?_;conv=>whnf)
 refine .inl ⟨_,Tryz.parts most hm most (by omega) t ht,.inl rfl,?_⟩;conv=>whnf
 repeat (refine gw rfl ?_;conv=>whnf)
 rfl
theorem Tryz.KJ (most:Nat) (hm:most≤1000) (l:List Tm) (hl:∀ x∈l,okT x) (hlen:l.length≤9223372036854775807):Pure Tryz.prog 7 [.list (l.map enT),.int .i64 most] [.bool (jk most l)]:=by
 refine Pure.of_wp hT (nt:=_) (c:=_) Tryz.func7 rfl rfl rfl rfl (by kernel_rfl) ?_;intro w0 ok0 β0;repeat (refine gw rfl ?_;conv=>whnf)
 (split<;>rename_i hb<;>(try rw [hb])<;>(conv=>whnf))
 ·have h:((most:Nat):Int)<l.length:=by simpa using hb
  rw [show jk most l=false by unfold jk;rw [decide_eq_false (by omega)];rfl];repeat (refine gw rfl ?_;conv=>whnf)
 ·have h:¬ ((most:Nat):Int)<l.length:=by simpa using hb
  have hs:jk most l=l.all (wF most):=by unfold jk;rw [decide_eq_true (by omega)];rfl
  rw [hs];clear hb;repeat (refine gw rfl ?_;conv=>whnf)
  refine WP.loop (α:=Nat) (fun i=>⟨[(0,.d (.list (l.map enT))),(1,.d (.int .i64 most)),(11,.d (.int .i64 l.length)),(12,.d (.int .i64 i))],[],[]⟩)
   (fun i=>i≤l.length∧∀ j (h:j<l.length),j<i→wF most l[j]=true) (fun i=>l.length-i) 0 [] [] ?_ ?_ ?_
  ·((conv=>whnf);repeat (first | exact ⟨⟩ | (refine ⟨by first | rfl | (simp;done) | (simp;omega),?_⟩;conv=>whnf)))
  ·exact ⟨Nat.zero_le _,fun j _ hj=>by omega⟩
  ·rintro i ⟨hi,hx⟩;(repeat (refine gw rfl ?_;conv=>whnf));(split<;>rename_i hb<;>(try rw [hb])<;>(conv=>whnf))
   ·have hlt:i<l.length:=(by simpa using hb);clear hb;(repeat (refine gw rfl ?_;conv=>whnf));refine ⟨by omega,_,dB hlt,rfl,?_⟩;(conv=>whnf);refine .inl ⟨_,Tryz.WL most hm l[i] (hl _ (List.getElem_mem hlt)),.inl rfl,?_⟩;(conv=>whnf);cases hc:wF most l[i] with
    | true=>
      (conv=>whnf);(repeat (refine gw rfl ?_;conv=>whnf));refine ⟨by omega,?_⟩;(conv=>whnf);refine ⟨i+1,[],[],?_,⟨by omega,fun j h hj=>?_⟩,by omega⟩
      ·((conv=>whnf);repeat (first | exact ⟨⟩ | (refine ⟨by first | rfl | (simp;done) | (simp;omega),?_⟩;conv=>whnf)))
      ·rcases Nat.lt_or_ge j i with h1 | h1
       ·exact hx j h h1
       ·obtain rfl:j=i:=by omega
        exact hc
    | false=>
      rw [show l.all (wF most)=false from List.all_eq_false.2 ⟨l[i],List.getElem_mem hlt,by rw [hc];simp⟩];(conv=>whnf);repeat (refine gw rfl ?_;conv=>whnf)
   ·have:i=l.length:=(by simp at hb;omega);subst this
    rw [show l.all (wF most)=true from List.all_eq_true.2 fun x hxm=>by
     obtain ⟨j,hj,rfl⟩:=List.mem_iff_getElem.1 hxm
     exact hx j hj hj]
    repeat (refine gw rfl ?_;conv=>whnf)
theorem Md {l:List Gr} {i:Nat} (h:i<l.length):(l.map enG)[((i:Int)).toNat]?=some (.agg [.int .i64 l[i].1,.list (l[i].2.1.map enI),.list (l[i].2.2.map enI)]):=ay h
set_option maxRecDepth 10000 in
theorem Tryz.WM (atoms:List Tm) (rules:List Gr) (hok:∀ x∈atoms,okT x) (hlen:atoms.length≤4000000000000000000) (hlr:rules.length≤4000000000000000000) (hw:∀ r∈rules,r.2.1.length≤4000000000000000000∧r.2.2.length≤4000000000000000000) :
  Pure Tryz.prog 6 [gD atoms rules] [.bool (qj atoms rules)]:=by
 refine Pure.of_wp hT (nt:=_) (c:=_) Tryz.func6 rfl rfl rfl rfl (by kernel_rfl) ?_;intro w0 ok0 β0;repeat (refine gw rfl ?_;conv=>whnf)
 refine .inl ⟨_,Tryz.KJ 60 (by decide) atoms hok (by omega),.inl rfl,?_⟩;conv=>whnf
 cases h1:jk (60:Nat) atoms with
 | false=>
   rw [show qj atoms rules=false by unfold qj;rw [show ((60:Nat):Int)=60 from rfl] at h1;rw [h1];rfl];(conv=>whnf);repeat (refine gw rfl ?_;conv=>whnf)
 | true=>
   have hs:qj atoms rules=(decide (rules.length≤80)&&rules.all fun r=>decide (r.2.1.length+r.2.2.length≤12)):=(by unfold qj;rw [show ((60:Nat):Int)=60 from rfl] at h1;rw [h1];rfl);rw [hs];(conv=>whnf);rw [List.length_map];cases h2:decide (((80:Int))<rules.length) with
   | true=>
     have h2':(80:Int)<rules.length:=(by simpa using h2);rw [show decide (rules.length≤80)=false from decide_eq_false (by omega),Bool.false_and];repeat (refine gw rfl ?_;conv=>whnf)
   | false=>
     have h2':¬ (80:Int)<rules.length:=(by simpa using h2);rw [show decide (rules.length≤80)=true from decide_eq_true (by omega),Bool.true_and];(repeat (refine gw rfl ?_;conv=>whnf));refine WP.loop (α:=Nat) (fun i=>⟨[(1,.d (.ref [.list (atoms.map enT),.list (rules.map enG)] 0)),(3,.d (.int .i64 i))],[],[]⟩)
      (fun i=>i≤rules.length∧∀ j (h:j<rules.length),j<i→rules[j].2.1.length+rules[j].2.2.length≤12) (fun i=>rules.length-i) 0 [] [] ?_ ?_ ?_
     ·((conv=>whnf);repeat (first | exact ⟨⟩ | (refine ⟨by first | rfl | (simp;done) | (simp;omega),?_⟩;conv=>whnf)))
     ·exact ⟨Nat.zero_le _,fun j _ hj=>by omega⟩
     ·rintro i ⟨hi,hx⟩;(repeat (refine gw rfl ?_;conv=>whnf));rw [List.length_map];(split<;>rename_i hb<;>(try rw [hb])<;>(conv=>whnf))
      ·have hlt:i<rules.length:=(by simpa using hb);clear hb;have hwi:=hw rules[i] (List.getElem_mem hlt);(repeat (refine gw rfl ?_;conv=>whnf));refine ⟨by omega,_,Md hlt,rfl,?_⟩;(conv=>whnf);refine ⟨by omega,_,Md hlt,rfl,?_⟩;(conv=>whnf);rw [List.length_map,List.length_map];refine ⟨by omega,?_⟩;(conv=>whnf);(repeat (refine gw rfl ?_;conv=>whnf));(split<;>rename_i hb<;>(try rw [hb])<;>(conv=>whnf))
       ·have h:(12:Int)<(rules[i].2.1.length:Int)+rules[i].2.2.length:=(by simpa using hb);rw [show (rules.all fun r=>decide (r.2.1.length+r.2.2.length≤12))=false from List.all_eq_false.2 ⟨rules[i],List.getElem_mem hlt,by simp;omega⟩];repeat (refine gw rfl ?_;conv=>whnf)
       ·have h:¬ (12:Int)<(rules[i].2.1.length:Int)+rules[i].2.2.length:=(by simpa using hb);(repeat (refine gw rfl ?_;conv=>whnf));refine ⟨by omega,?_⟩;(conv=>whnf);refine ⟨i+1,[],[],?_,⟨by omega,fun j h0 hj=>?_⟩,by omega⟩
        ·((conv=>whnf);repeat (first | exact ⟨⟩ | (refine ⟨by first | rfl | (simp;done) | (simp;omega),?_⟩;conv=>whnf)))
        ·rcases Nat.lt_or_ge j i with h1 | h1
         ·exact hx j h0 h1
         ·obtain rfl:j=i:=by omega
          omega
      ·have:i=rules.length:=(by simp at hb;omega);subst this
       rw [show (rules.all fun r=>decide (r.2.1.length+r.2.2.length≤12))=true from List.all_eq_true.2 fun x hxm=>by
        obtain ⟨j,hj,rfl⟩:=List.mem_iff_getElem.1 hxm
        exact decide_eq_true (hx j hj hj)]
       repeat (refine gw rfl ?_;conv=>whnf)
theorem CZ (m:Own.Rows):(dU m).map D.list=m.map fun r=>D.list (r.map enI):=by
 unfold dU;rw [List.map_map];rfl
theorem Tryz.Xt (atoms:List Tm) (rules:List Gr) (hi':dZ atoms.length rules) (hn:atoms.length≤64) (hr:rules.length≤128) (hf:∀ r∈rules,r.2.1.length+r.2.2.length≤16) :
  Pure Tryz.prog 85 [gD atoms rules] [.list ((aA atoms.length rules).map fun r => .list (r.map enI))]:=by
 obtain ⟨n,hnn⟩:∃ n,atoms.length=n:=⟨_,rfl⟩
 rw [hnn] at hi' hn ⊢;refine Pure.of_wp hT (nt:=_) (c:=_) Tryz.func85 rfl rfl rfl rfl (by kernel_rfl) ?_;intro w0 ok0 β0;refine W1 ?_;refine W2 hT hM [] ?_;conv=>whnf
 refine W1 ?_;refine W2 hT hM [9] ?_;conv=>whnf
 rw [List.length_map,hnn];refine ⟨⟨by omega,by omega,by omega,by show ((24:Nat):Int)*(n:Int)≤281474976710656;omega⟩,?_⟩;rw [Int.toNat_natCast,Ah n rules];conv=>whnf
 repeat (refine gw rfl ?_;conv=>whnf)
 have hE:∀ i j,i≤rules.length→(rowOf (aA n (rules.take i)) j).length≤2048:=fun i j hi=>by
  have h1:=qy (n:=n) (rules:=rules.take i) (k:=16) (fun r hr'=>by have:=hf r (List.mem_of_mem_take hr');omega) j;rw [List.length_take] at h1;have h2:min i rules.length*16≤128*16:=Nat.mul_le_mul_right _ (by omega);omega
 have hcell:∀ (l:List Int) (y:D),y∈l.map enI→y.cells.length=1:=fun l y hy=>by
  obtain ⟨x,_,rfl⟩:=List.mem_map.1 hy;rfl
 have hlen0:∀ i,(dU (aA n (rules.take i))).length=n:=fun i=>by unfold dU;rw [List.length_map,bK]
 refine WP.loop (α:=Nat) (fun i=>⟨[(1,.d (.ref [.list (atoms.map enT),.list (rules.map enG)] 0)),(3,.rsl 9 n),(4,.d (.int .i64 i))],[((9,0),some (.rows 1 (dU (aA n (rules.take i))) none))],[9]⟩)
  (fun i=>i≤rules.length) (fun i=>rules.length-i) 0 [(9,some 9)] [] ?_ ?_ ?_
 ·((conv=>whnf);repeat (first | exact ⟨⟩ | (refine ⟨by first | rfl | (simp;done) | (simp;omega),?_⟩;conv=>whnf)))
 ·exact Nat.zero_le _
 ·intro i hi;repeat (refine gw rfl ?_;conv=>whnf)
  (split<;>rename_i hb<;>(try rw [hb])<;>(conv=>whnf))
  ·have hlt:i<rules.length:=(by simpa using hb);clear hb;(repeat (refine gw rfl ?_;conv=>whnf));refine ⟨by omega,_,ay hlt,rfl,?_⟩;(conv=>whnf);have hm:=hi'.head rules[i] (List.getElem_mem hlt);have hrow:=lG (m:=aA n (rules.take i)) (i:=rules[i].1.toNat) (by rw [bK];omega);refine W2 hT hM [] ?_;(conv=>whnf);refine ⟨⟨hm.1,hm.2⟩,?_⟩;(conv=>whnf);refine ⟨_,o8 hrow,?_⟩;(conv=>whnf);refine ⟨_,by rw [List.drop_zero,List.take_length],by omega,?_⟩;(conv=>whnf);refine ⟨hcell _,?_⟩;(conv=>whnf);have hlt1:=hE i rules[i].1.toNat (by omega);have hlt2:=hf rules[i] (List.getElem_mem hlt);refine ⟨by show _*8≤_;rw [List.length_map,List.length_map];omega,?_⟩;(conv=>whnf);refine ⟨_,by rw [List.drop_zero,← List.length_append,List.take_length],by rw [List.length_append];omega,?_⟩;(conv=>whnf);refine ⟨hcell _,?_⟩;(conv=>whnf);refine ⟨by show _*8≤_;rw [List.length_append,List.length_map,List.length_map,List.length_map];omega,?_⟩;(conv=>whnf);refine ⟨⟨hm.1,hm.2⟩,?_⟩;(conv=>whnf);refine ⟨⟨by rw [hlen0];omega,rfl⟩,_,by rw [List.drop_zero,← List.length_append,List.take_length],by simp only [List.length_append];omega,?_⟩;(conv=>whnf);rw [C9 _ _ hm.1,← DI hlt];(repeat (refine gw rfl ?_;conv=>whnf));refine ⟨by omega,?_⟩;(conv=>whnf);refine ⟨i+1,[(9,some 9)],[],?_,by omega,by omega⟩;((conv=>whnf);repeat (first | exact ⟨⟩ | (refine ⟨by first | rfl | (simp;done) | (simp;omega),?_⟩;conv=>whnf)))
  ·have:i=rules.length:=(by simp at hb;omega);subst this;rw [List.take_length];clear hb;(repeat (refine gw rfl ?_;conv=>whnf));rw [CZ]
theorem JB {α:Type} {f:α→D} {a:List α} {i:Nat} {x:α} (h:a[i]?=some x):(a.map f)[((i:Int)).toNat]?=some (f x):=by simp [h]
theorem Yp {m:Own.Rows} {i:Nat} (h:i<m.length):(m.map fun r=>D.list (r.map enI))[((i:Int)).toNat]?=some (.list ((rowOf m (i:Nat)).map enI)):=JB (f:=fun (r:List Int)=>D.list (r.map enI)) (lG h)
theorem Tryz.Qy (atoms:List Tm) (rules:List Gr) (hi':dZ atoms.length rules) (hn:atoms.length≤64) (hr:rules.length≤128) (hf:∀ r∈rules,r.2.1.length+r.2.2.length≤16) :
  Pure Tryz.prog 38 [gD atoms rules] [enM (bg atoms.length (aA atoms.length rules))]:=by
 have hlinks:=Tryz.Xt atoms rules hi' hn hr hf;obtain ⟨n,hnn⟩:∃ n,atoms.length=n:=⟨_,rfl⟩
 rw [hnn] at hi' hn hlinks ⊢;have hNX:Own.RowsIn n (aA n rules):=DJ hi'.body;have hNL:=bK n rules;have hrl:∀ j:Int,(rowOf (aA n rules) j).length≤2048:=fun j=>by
  have h1:=qy (n:=n) (rules:=rules) (k:=16) hf j;have h2:rules.length*16≤128*16:=Nat.mul_le_mul_right _ (by omega);omega
 have hcell:∀ (l:List Int) (y:D),y∈l.map enI→y.cells.length=1:=fun l y hy=>by
  obtain ⟨x,_,rfl⟩:=List.mem_map.1 hy;rfl
 refine Pure.of_wp hT (nt:=_) (c:=_) Tryz.func38 rfl rfl rfl rfl (by kernel_rfl) ?_;intro w0 ok0 β0;repeat (refine gw rfl ?_;conv=>whnf)
 refine .inl ⟨_,hlinks,.inl rfl,?_⟩;conv=>whnf
 generalize hNM:aA n rules=m at hNX hNL hrl;refine W1 ?_;refine W2 hT hM [13] ?_;conv=>whnf
 rw [List.length_map,hnn];refine ⟨⟨by omega,by omega,by omega,by show ((24:Nat):Int)*(n:Int)≤281474976710656;omega⟩,?_⟩;rw [Int.toNat_natCast,Dq n m];conv=>whnf
 repeat (refine gw rfl ?_;conv=>whnf)
 refine WP.loop (α:=Nat) (fun a=>⟨[(3,.d (.list (m.map fun r => .list (r.map enI)))),(4,.rsl 13 n),(5,.d (.int .i64 a))],[((13,0),some (.rows 1 (qw n m a) none))],[13]⟩)
  (fun a=>a≤n) (fun a=>n-a) 0 [(13,some 13)] [] ?_ ?_ ?_
 ·((conv=>whnf);repeat (first | exact ⟨⟩ | (refine ⟨by first | rfl | (simp;done) | (simp;omega),?_⟩;conv=>whnf)))
 ·exact Nat.zero_le _
 ·intro a ha;repeat (refine gw rfl ?_;conv=>whnf)
  (split<;>rename_i hb<;>(try rw [hb])<;>(conv=>whnf))
  ·have hlt:a<n:=(by simpa using hb);clear hb;(repeat (refine gw rfl ?_;conv=>whnf));refine ⟨⟨by omega,by omega,by omega,by show ((1:Nat):Int)*(n:Int)≤281474976710656;omega⟩,?_⟩;rw [Int.toNat_natCast];(conv=>whnf);refine ⟨rfl,?_⟩;(conv=>whnf);refine ⟨by omega,?_⟩;rw [Int.toNat_natCast];(conv=>whnf);refine ⟨⟨by rw [dO];omega,trivial⟩,_,by rw [List.drop_zero,List.take_of_length_le (by simp)],by simp,?_⟩;rw [show List.replicate n (D.bool false)=(List.replicate n false).map D.bool by simp];(conv=>whnf);(repeat (refine gw rfl ?_;conv=>whnf));refine ⟨by omega,_,Yp (by omega),rfl,?_⟩;(conv=>whnf);refine ⟨hcell _,?_⟩;(conv=>whnf);have hra:=hrl (a:Nat);refine ⟨by show _*8≤_;simp only [List.length_map,List.length_nil];omega,?_⟩;(conv=>whnf);rw [List.nil_append,List.length_map,show ([]:List D).length+(rowOf m (a:Nat)).length=(rowOf m (a:Nat)).length by simp];refine W3 ?_
   refine WP.loop (α:=List Bool×List Int×Nat×Nat) (fun y=>⟨[(3,.d (.list (m.map fun r => .list (r.map enI)))),(4,.rsl 13 n),(5,.d (.int .i64 a)),(6,.sl 31 1 y.2.2.1 y.2.2.2)],
     [((13,0),some (.rows 1 ((qw n m a).set a (y.1.map D.bool)) none)),((31,0),some (.arr 1 (y.2.1.map enI)))],[13,31]⟩)
    (fun y=>Dfs m n a y.1 (y.2.1.drop y.2.2.1)∧y.2.2.1+y.2.2.2=y.2.1.length∧y.2.2.2+dA y.1*2048≤(n+1)*2048) (fun y=>dA y.1*4096+y.2.2.2)
    (List.replicate n false,rowOf m (a:Nat),0,(rowOf m (a:Nat)).length) [(13,some 13),(31,some 31)] [] ?_ ?_ ?_
   ·((conv=>whnf);repeat (first | exact ⟨⟩ | (refine ⟨by first | rfl | (simp;done) | (simp;omega),?_⟩;conv=>whnf)))
   ·refine ⟨by rw [List.drop_zero];exact Dfs.start _ _ _,by simp,?_⟩;simp only [dn];omega
   ·rintro ⟨s,xs,o,k⟩ ⟨hd,hk,hsz⟩;dsimp only at hd hk hsz ⊢;(repeat (refine gw rfl ?_;conv=>whnf));(split<;>rename_i hb<;>(try rw [hb])<;>(conv=>whnf))
    ·have hk0:0<k:=(by simpa using hb);clear hb;have hx:xs[o]?=some xs[o]:=List.getElem?_eq_getElem (by omega);have htk:xs.drop o=xs[o]::xs.drop (o+1):=List.drop_eq_getElem_cons (by omega);generalize hxe:xs[o]=x at hx htk;have hxm:x∈xs.drop o:=(by rw [htk];simp);have hxr:=(hd.todo x hxm).inR hNX;(repeat (refine gw rfl ?_;conv=>whnf));refine ⟨by omega,?_⟩;(conv=>whnf);refine ⟨_,by rw [show o+((0:Int)).toNat=o from rfl,List.getElem?_map,hx];rfl,?_⟩;(conv=>whnf);(repeat (refine gw rfl ?_;conv=>whnf));refine ⟨by simp only [Option.getD_none,Option.getD_some];omega,?_⟩;conv=>whnf
     refine WP.weak (l':=⟨[(3,.d (.list (m.map fun r => .list (r.map enI)))),(4,.rsl 13 n),(5,.d (.int .i64 a)),(6,.sl 31 1 (o+1) (k-1)),(7,.d (.int .i64 x))],
      [((13,0),some (.rows 1 ((qw n m a).set a (s.map D.bool)) none)),((31,0),some (.arr 1 (xs.map enI)))],[13,31]⟩)
      [(13,some 13),(31,some 31)] [] ?_ ?_
     ·((conv=>whnf);repeat (first | exact ⟨⟩ | (refine ⟨by first | rfl | (simp;done) | (simp;omega),?_⟩;conv=>whnf)))
     (repeat (refine gw rfl ?_;conv=>whnf));refine ⟨by omega,?_⟩;rw [Int.toNat_natCast];(conv=>whnf);refine ⟨_,List.getElem?_set_self (by rw [dO];omega),?_⟩;(conv=>whnf);refine ⟨by rw [List.length_map,hd.len];omega,?_⟩;(conv=>whnf);obtain ⟨b,hsx⟩:∃ b,s[x.toNat]?=some b:=⟨_,List.getElem?_eq_getElem (by rw [hd.len];omega)⟩
     refine ⟨_,by rw [Nat.zero_add,List.getElem?_map,hsx];rfl,?_⟩;(conv=>whnf);have hl1:∀ y∈xs.drop (o+1),y∈xs.drop o:=fun y hy=>by rw [htk];simp [hy]
     have hl2:∀ y∈xs.drop o,y=x∨y∈xs.drop (o+1):=fun y hy=>by
      rw [htk] at hy
      simpa using hy
     refine W7 ?_ rfl;(conv=>whnf);cases b with
     | true=>
       (conv=>whnf);refine WP.back 13 43 ?_;(conv=>whnf);refine ⟨by rw [List.length_set,dO];omega,?_⟩;(conv=>whnf);rw [List.set_set];(repeat (refine gw rfl ?_;conv=>whnf));refine ⟨(s,xs,o+1,k-1),[(13,some 13),(31,some 31)],[],?_,⟨hd.skip hl1 hl2 hsx,by dsimp only;omega,by dsimp only;omega⟩,by dsimp only;omega⟩;((conv=>whnf);repeat (first | exact ⟨⟩ | (refine ⟨by first | rfl | (simp;done) | (simp;omega),?_⟩;conv=>whnf)))
     | false=>
       (conv=>whnf);refine W1 ?_;refine W2 hT hM [] ?_;(conv=>whnf);refine ⟨by omega,?_⟩;rw [Int.toNat_natCast];(conv=>whnf);refine ⟨⟨rfl,by rw [List.length_set,dO];omega⟩,?_⟩;(conv=>whnf);refine ⟨by rw [List.length_map,hd.len];omega,?_⟩;(conv=>whnf);refine ⟨rfl,_,by rw [Nat.zero_add,List.getElem?_map,hsx];rfl,?_⟩;(conv=>whnf);refine .inl ⟨rfl,rfl,?_⟩;rw [Nat.zero_add];(conv=>whnf);refine WP.back 13 43 ?_;(conv=>whnf);refine ⟨by rw [List.length_set,dO];omega,?_⟩;(conv=>whnf);rw [List.set_set,show (s.map D.bool).set x.toNat (D.bool true)=(s.set x.toNat true).map D.bool by rw [List.map_set]]
       refine WP.weak (l':=⟨[(3,.d (.list (m.map fun r => .list (r.map enI)))),(4,.rsl 13 n),(5,.d (.int .i64 a)),(6,.sl 31 1 (o+1) (k-1)),(7,.d (.int .i64 x))],
        [((13,0),some (.rows 1 ((qw n m a).set a ((s.set x.toNat true).map D.bool)) none)),((31,0),some (.arr 1 (xs.map enI)))],[13,31]⟩)
        [(13,some 13),(31,some 31)] [] ?_ ?_
       ·((conv=>whnf);repeat (first | exact ⟨⟩ | (refine ⟨by first | rfl | (simp;done) | (simp;omega),?_⟩;conv=>whnf)))
       refine W2 hT hM [] ?_;(conv=>whnf);have hnx:(m.map fun r=>D.list (r.map enI))[x.toNat]?=some (.list ((rowOf m (x.toNat:Nat)).map enI)):=by
        have:=Yp (m:=m) (i:=x.toNat) (by omega)
        rwa [Int.toNat_natCast] at this
       refine ⟨by omega,_,hnx,rfl,?_⟩;(conv=>whnf);refine ⟨_,by rw [← List.map_drop,← List.map_take],by rw [List.length_map];omega,?_⟩;(conv=>whnf);refine ⟨hcell _,?_⟩;(conv=>whnf);have hfl:=wY hsx;have hrx:=hrl (x.toNat:Nat);have hlen:((xs.drop (o+1)).take (k-1))=xs.drop (o+1):=List.take_of_length_le (by rw [List.length_drop];omega);rw [hlen];refine ⟨by show _*8≤_;simp only [List.length_map,List.length_drop];omega,?_⟩;rw [show (List.map enI (xs.drop (o+1))).length+(List.map enI (rowOf m (x.toNat:Nat))).length=k-1+(rowOf m (x.toNat:Nat)).length by simp only [List.length_map,List.length_drop];omega,← List.map_append];(conv=>whnf);have hsum:k-1+(rowOf m (x.toNat:Nat)).length+dA (s.set x.toNat true)*2048≤(n+1)*2048:=(by omega);refine ⟨(s.set x.toNat true,xs.drop (o+1)++rowOf m (x.toNat:Nat),0,k-1+(rowOf m (x.toNat:Nat)).length),[(13,some 13),(31,some 59)],[],?_,⟨?_,?_,hsum⟩,?_⟩
       ·((conv=>whnf);repeat (first | exact ⟨⟩ | (refine ⟨by first | rfl | (simp;done) | (simp;omega),?_⟩;conv=>whnf)))
       ·dsimp only;rw [List.drop_zero,show ((x.toNat:Nat):Int)=x by omega];exact hd.visit hl1 hl2 hxm hxr
       ·dsimp only;rw [List.length_append,List.length_drop];omega
       ·dsimp only;omega
    ·have hk0:k=0:=(by simp at hb;omega);subst hk0;clear hb;rw [List.drop_of_length_le (by omega)] at hd;have hs:=hd.done hNX;rw [hs,GZ hlt];(repeat (refine gw rfl ?_;conv=>whnf));refine ⟨by omega,?_⟩;(conv=>whnf);refine ⟨a+1,[(13,some 13)],[],?_,by omega,by omega⟩;((conv=>whnf);repeat (first | exact ⟨⟩ | (refine ⟨by first | rfl | (simp;done) | (simp;omega),?_⟩;conv=>whnf)))
  ·have:a=n:=(by simp at hb;omega);subst this;(repeat (refine gw rfl ?_;conv=>whnf));rw [G5];rfl
end Go.Proofs.YtdonenoiehdahaaGreat
