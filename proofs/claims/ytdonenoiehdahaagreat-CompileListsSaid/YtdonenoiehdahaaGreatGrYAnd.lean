/- Walks: model.Strata; its error and its levels are the reference's. -/
import Derived.Test.YtdonenoiehdahaaGreatKeysEAnd
import Derived.Test.YtdonenoiehdahaaGreatLsLAnd
import Derived.Test.YtdonenoiehdahaaGreatLtJAnd
import Derived.Test.YtdonenoiehdahaaGreatGrOAnd
set_option linter.all false
namespace Go.Own
theorem BD {bad:Bool→Nat→Bool} {f:Str→Nat}:∀ {E:List Eg} {lv lv':Str→Nat} {m m':Bool},dO bad E lv m=some (lv',m')→iY E f→(∀ x,lv x≤f x)→∀ x,lv' x≤f x
 | [],lv,lv',m,m',h,_,hl=>by unfold dO at h;cases h;exact hl
 | e::E,lv,lv',m,m',h,hs,hl=>by
   unfold dO at h
   simp only at h
   split at h
   ·cases h
   ·refine BD h (fun e' he'=>hs e' (by simp [he'])) fun x=>?_
    have h1:=hs e (by simp)
    have h2:=hl e.2.1
    cases hu:decide (lv e.1<lv e.2.1+eY e) with
    | true=>
      show raise lv e.1 _ x≤f x
      unfold raise;split
      ·rename_i ex;subst ex;omega
      ·exact hl x
    | false=>exact hl x
theorem iF {bad:Bool→Nat→Bool} {E:List Eg}:∀ {F:Nat} {lv lv':Str→Nat},bn bad E F lv=some lv'→iY E lv'∧∀ f,iY E f→(∀ x,lv x≤f x)→∀ x,lv' x≤f x
 | 0,_,_,h=>by cases h
 | F+1,lv,lv',h=>by
   unfold bn at h
   split at h
   ·cases h
   ·rename_i lw hr
    obtain ⟨h1,h2⟩:=iF h
    exact ⟨h1,fun f hf hl=>h2 f hf (BD hr hf hl)⟩
   ·rename_i lw hr
    cases h
    obtain ⟨rfl,h1⟩:=qU hr
    exact ⟨h1,fun f _ hl=>hl⟩
theorem iY.congr {E E':List Eg} {f:Str→Nat} (h:∀ e,e∈E↔e∈E') (hs:iY E f):iY E' f:=hs.of_sub fun e he=>(h e).2 he
theorem Ny {bad bad':Bool→Nat→Bool} {E E':List Eg} {F F':Nat} {lv lv':Str→Nat} (hE:∀ e,e∈E↔e∈E') (h:bn bad E F (fun _=>0)=some lv) (h':bn bad' E' F' (fun _=>0)=some lv'):lv=lv':=by
 obtain ⟨h1,h2⟩:=iF h
 obtain ⟨h3,h4⟩:=iF h'
 funext x
 exact Nat.le_antisymm (h2 lv' (h3.congr fun e=>(hE e).symm) (fun _=>Nat.zero_le _) x) (h4 lv (h1.congr hE) (fun _=>Nat.zero_le _) x)
theorem Nw {bad:Bool→Nat→Bool} {E:List Eg} {F:Nat} {lv:Str→Nat} (h:bn bad E F (fun _=>0)=some lv) {x:Str} (hx:∀ e∈E,e.1≠x):lv x=0:=by
 obtain ⟨h1,h2⟩:=iF h
 have hs:iY E (fun y=>if y=x then 0 else lv y):=fun e he=>by
  have:=h1 e he
  simp only
  rw [if_neg (hx e he)]
  split<;>omega
 have:=h2 _ hs (fun _=>Nat.zero_le _) x
 simp at this
 exact this
end Go.Own
namespace Go.Proofs.YtdonenoiehdahaaGreat
open Go Go.Abs Go.Own
attribute [local irreducible] WP
theorem Nz {names:List Str} {L:List Eg} (hm:∀ e∈L,e.1∈names∧e.2.1∈names):yO (qA L) (bY L)=dP names L:=by
 have hp:∀ e,e∈bY L↔e∈L:=fun e=>(fA L).mem_iff
 have h1:(yO (qA L) (bY L)).isSome=o9 (bY L):=xg WB PZ (fun e he=>BF e ((hp e).1 he)) (Nat.lt_succ_self _)
 have h2:(dP names L).isSome=o9 L:=xg (k:=names.length) (fun u n h=>Nat.le_of_lt (of_decide_eq_true h)) (fun u n h _=>by have:=of_decide_eq_false h;omega) hm (Nat.lt_succ_self _)
 rw [Hq hp,← h2] at h1
 cases ha:yO (qA L) (bY L) with
 | none=>
   cases hb:dP names L with
   | none=>rfl
   | some lv=>rw [ha,hb] at h1;cases h1
 | some lv=>
   cases hb:dP names L with
   | none=>rw [ha,hb] at h1;cases h1
   | some lv'=>rw [Ny hp ha hb]
theorem JR {n:Str} {lv:Str→Nat}:∀ {names:List Str},n∉names→ofL n (names.map fun n=>(n,((lv n:Nat):Int)))=-1
 | [],_=>rfl
 | x::l,h=>by
   rw [List.map_cons,ofL,if_neg (fun e=>h (List.mem_cons.2 (.inl e.symm)))]
   exact JR fun hm=>h (List.mem_cons.2 (.inr hm))
theorem of_same {names:List Str} {L:List Eg} {lv:Str→Nat} {n:Str} (hlv:dP names L=some lv) (hn:n∈names) :
  (if (0:Int)>ofL n ((qA L).map fun n=>(n,((lv n:Nat):Int))) then 0 else ofL n ((qA L).map fun n=>(n,((lv n:Nat):Int))))=ofL n (names.map fun n=>(n,((lv n:Nat):Int))):=by
 rw [BO hn]
 by_cases h:n∈qA L
 ·rw [BO h,if_neg (by omega)]
 ·rw [JR h,if_pos (by omega)]
  have:lv n=0:=Nw hlv fun e he e'=>h (e' ▸ (BF e he).1)
  rw [this];rfl
def kH {α:Type} (f:α→D) (z:D) (l:List α) (i:Nat):List D:=(l.take i).map f++List.replicate (l.length-i) z
theorem Gw {α:Type} {f:α→D} {z:D} {l:List α} {i:Nat} (h:i≤l.length):(kH f z l i).length=l.length:=by simp [kH];omega
theorem Gv {α:Type} {f:α→D} {z:D} {l:List α} {i:Nat} (h:i<l.length):(kH f z l i).set i (f l[i])=kH f z l (i+1):=by
 unfold kH
 have hl:((l.take i).map f).length=i:=by simp;omega
 rw [List.set_append_right _ _ (by omega),hl,Nat.sub_self,show l.length-i=(l.length-(i+1))+1 by omega,List.replicate_succ,List.set_cons_zero,List.take_succ_eq_append_getElem h,List.map_append,List.append_assoc]
 rfl
theorem Dq {α:Type} (f:α→D) (z:D) (l:List α):kH f z l l.length=l.map f:=by simp [kH]
theorem Dp {α:Type} (f:α→D) (z:D) (l:List α):kH f z l 0=List.replicate l.length z:=by simp [kH]
theorem Je {atoms:List Tm} {rules:List Gr} (hv:aP atoms rules=true):∀ t∈atoms,t.name≠dist:=fun t ht=>by
 obtain ⟨i,hi,rfl⟩:=List.getElem_of_mem ht
 unfold aP iK at hv
 simp only [Bool.and_eq_true] at hv
 have:=jg.1 hv.1.1.2 i hi
 rw [jC hi,Bool.and_eq_true] at this
 have h:=this.1
 unfold nG at h
 simp only [Bool.and_eq_true,Bool.not_eq_true',beq_eq_false_iff_ne] at h
 exact h.2
theorem Ov {E:List Eg} {e:Eg} (h:E.Nodup):(zn E e).Nodup:=by
 unfold zn
 cases hb:E.any fun x=>decide (x=e) with
 | true=>exact h
 | false=>
   have hn:e∉E:=fun hm=>by
    have:E.any (fun x=>decide (x=e))=true:=List.any_eq_true.2 ⟨e,hm,by simp⟩
    rw [this] at hb;cases hb
   rw [List.nodup_append]
   exact ⟨h,by simp,fun a ha b hb=>by simp at hb;subst hb;exact fun e'=>hn (e' ▸ ha)⟩
theorem GH {atoms:List Tm} {r:Gr} {E:List Eg} (h:E.Nodup):∀ k,(egR atoms r E k).Nodup
 | 0=>by simpa [egR] using h
 | k+1=>by rw [lU];exact Ov (GH h k)
theorem Gy {atoms:List Tm}:∀ {rules:List Gr} {E:List Eg},E.Nodup→(dX atoms rules E).Nodup
 | [],E,h=>h
 | r::l,E,h=>by
   show (dX atoms l (egR atoms r E (szR r))).Nodup
   exact Gy (GH h _)
theorem LV {E:List Eg} {e:Eg} (h:e∈E):zn E e=E:=by
 unfold zn
 rw [show (E.any fun x=>decide (x=e))=true from List.any_eq_true.2 ⟨e,h,by simp⟩]
theorem LW {E:List Eg} {e:Eg} (h:e∉E):zn E e=E++[e]:=by
 unfold zn
 rw [show (E.any fun x=>decide (x=e))=false from Bool.eq_false_iff.2 fun hb=>by
  obtain ⟨x,hx,e'⟩:=List.any_eq_true.1 hb
  rw [of_decide_eq_true e'] at hx;exact h hx]
theorem Lj {atoms:List Tm} {r:Gr} {k:Nat} (h:k<r.2.1.length):jB atoms r k=(nameAt atoms r.1,nameAt atoms r.2.1[k],false):=by
 unfold jB
 rw [decide_eq_true h,List.getElem?_eq_getElem h];rfl
theorem Uw {atoms:List Tm} {r:Gr} {k:Nat} (h:k<r.2.2.length):jB atoms r (r.2.1.length+k)=(nameAt atoms r.1,nameAt atoms r.2.2[k],true):=by
 unfold jB
 rw [decide_eq_false (by omega),show r.2.1.length+k-r.2.1.length=k by omega,List.getElem?_eq_getElem h];rfl
set_option maxRecDepth 10000 in
theorem Tryz.OG (atoms:List Tm) (rules:List Gr) (hok:∀ x∈atoms,okT x) (hv:aP atoms rules=true) (hn:atoms.length≤64) (hr:rules.length≤128) (hf:∀ r∈rules,r.2.1.length+r.2.2.length≤16) :
  Pure Tryz.prog 75 [gD atoms rules] (strD atoms (nmS atoms) (dX atoms rules [])):=by
 have hin:=eP hv
 have hnm:=Je hv
 refine Pure.of_wp hT (nt:=_) (c:=_) Tryz.func75 rfl rfl rfl rfl (by kernel_rfl) ?_
 intro w0 ok0 β0
 repeat (refine gw rfl ?_;conv=>whnf)
 refine WP.loop (α:=Nat) (fun i=>⟨[(1,.d (.ref [.list (atoms.map enT),.list (rules.map enG)] 0)),(5,.ptr 5 0),(6,.func (.func 112) [] [.d (.ref [.list (atoms.map enT),.list (rules.map enG)] 0),.ptr 4 0,.ptr 5 0]),(20,.d (.list (rules.map enG))),(21,.d (.int .i64 rules.length)),(22,.d (.int .i64 i))],[((4,0),some (.cell (.map 17))),((17,0),some (.map (mpE (dX atoms (rules.take i) [])))),((5,0),some (.cell (.sl 18 3 0 (dX atoms (rules.take i) []).length))),((18,0),some (.arr 3 ((dX atoms (rules.take i) []).map enR)))],[4,17,5,18]⟩)
  (fun i=>i≤rules.length∧(dX atoms (rules.take i) []).length≤16*i) (fun i=>rules.length-i) 0 [(4,some 4),(17,some 17),(5,some 5),(18,none)] [] ?_ ?_ ?_
 ·rw [List.length_map]
  ((conv=>whnf);repeat (first | exact ⟨⟩ | (refine ⟨by first | rfl | (simp;done) | (simp;omega),?_⟩;conv=>whnf)))
 ·exact ⟨Nat.zero_le _,Nat.zero_le _⟩
 ·rintro i ⟨hi,hEl⟩
  repeat (refine gw rfl ?_;conv=>whnf)
  (split<;>rename_i hb<;>(try rw [hb])<;>(conv=>whnf))
  ·have hlt:i<rules.length:=by simpa using hb
   clear hb
   have hm:=hin.head rules[i] (List.getElem_mem hlt)
   have hbd:=hin.body rules[i] (List.getElem_mem hlt)
   have hfi:=hf rules[i] (List.getElem_mem hlt)
   generalize hE0:dX atoms (rules.take i) []=E0 at hEl
   repeat (refine gw rfl ?_;conv=>whnf)
   refine ⟨by omega,_,KC hlt,rfl,?_⟩
   conv=>whnf
   repeat (refine gw rfl ?_;conv=>whnf)
   refine WP.loop (α:=Nat) (fun k=>⟨[(1,.d (.ref [.list (atoms.map enT),.list (rules.map enG)] 0)),(5,.ptr 5 0),(6,.func (.func 112) [] [.d (.ref [.list (atoms.map enT),.list (rules.map enG)] 0),.ptr 4 0,.ptr 5 0]),(20,.d (.list (rules.map enG))),(21,.d (.int .i64 rules.length)),(22,.d (.int .i64 i)),(8,.ptr 8 0),(27,.d (.list (rules[i].2.1.map enI))),(28,.d (.int .i64 rules[i].2.1.length)),(29,.d (.int .i64 k))],[((4,0),some (.cell (.map 17))),((17,0),some (.map (mpE (egR atoms rules[i] E0 k)))),((5,0),some (.cell (.sl 18 3 0 (egR atoms rules[i] E0 k).length))),((18,0),some (.arr 3 ((egR atoms rules[i] E0 k).map enR))),((8,0),some (.cell (.d (.int .i64 rules[i].1)))),((8,1),some (.cell (.d (.list (rules[i].2.1.map enI))))),((8,2),some (.cell (.d (.list (rules[i].2.2.map enI)))))],[4,17,5,18,8]⟩)
    (fun k=>k≤rules[i].2.1.length∧(egR atoms rules[i] E0 k).length≤E0.length+k) (fun k=>rules[i].2.1.length-k) 0 [(4,some 4),(17,some 17),(5,some 5),(18,some 18),(8,some 8)] [] ?_ ?_ ?_
   ·rw [List.length_map]
    ((conv=>whnf);repeat (first | exact ⟨⟩ | (refine ⟨by first | rfl | (simp;done) | (simp;omega),?_⟩;conv=>whnf)))
   ·exact ⟨Nat.zero_le _,Nat.le_refl _⟩
   ·rintro k ⟨hk,hEk⟩
    repeat (refine gw rfl ?_;conv=>whnf)
    (split<;>rename_i hb<;>(try rw [hb])<;>(conv=>whnf))
    ·have hlk:k<rules[i].2.1.length:=by simpa using hb
     clear hb
     repeat (refine gw rfl ?_;conv=>whnf)
     refine ⟨by omega,_,ak hlk,rfl,?_⟩
     conv=>whnf
     repeat (refine gw rfl ?_;conv=>whnf)
     have hyr:=hbd.1 rules[i].2.1[k] (List.getElem_mem hlk)
     have hyl:rules[i].2.1[k].toNat<atoms.length:=by omega
     have hsc:=lU atoms rules[i] E0 k
     rw [Lj hlk] at hsc
     generalize hE1:egR atoms rules[i] E0 k=E1 at hEk hsc ⊢
     by_cases hmem:(nameAt atoms rules[i].1,nameAt atoms rules[i].2.1[k],false)∈E1
     ·rw [LV hmem] at hsc
      refine .inr ⟨_,_,_,_,_,_,Tryz.U2 atoms rules E1 rules[i].1 rules[i].2.1[k] false (by omega) (by omega) (by omega) hyl hmem,[(4,4),(17,17),(5,5),(18,18)],[],rfl,rfl,?_⟩
      conv=>whnf
      refine ⟨rfl,rfl,rfl,rfl,?_⟩
      conv=>whnf
      repeat (refine gw rfl ?_;conv=>whnf)
      refine ⟨by omega,?_⟩
      conv=>whnf
      refine ⟨k+1,[(4,some 4),(17,some 17),(5,some 5),(18,some 18),(8,some 8)],[],?_,⟨by omega,by rw [hsc];omega⟩,by omega⟩
      rw [hsc]
      ((conv=>whnf);repeat (first | exact ⟨⟩ | (refine ⟨by first | rfl | (simp;done) | (simp;omega),?_⟩;conv=>whnf)))
     ·rw [LW hmem] at hsc
      refine .inr ⟨_,_,_,_,_,_,Tryz.U3 atoms rules E1 rules[i].1 rules[i].2.1[k] false (by omega) (by omega) (by omega) hyl hmem (by omega),[(4,4),(17,17),(5,5),(18,18),(42,37)],[37],rfl,rfl,?_⟩
      conv=>whnf
      refine ⟨rfl,rfl,rfl,rfl,?_⟩
      conv=>whnf
      repeat (refine gw rfl ?_;conv=>whnf)
      refine ⟨by omega,?_⟩
      conv=>whnf
      have hll:(E1++[(nameAt atoms rules[i].1,nameAt atoms rules[i].2.1[k],false)]).length=E1.length+1:=by simp
      refine ⟨k+1,[(4,some 4),(17,some 17),(5,some 5),(18,some 37),(8,some 8)],[],?_,⟨by omega,by rw [hsc,hll];omega⟩,by omega⟩
      rw [hsc,hll]
      ((conv=>whnf);repeat (first | exact ⟨⟩ | (refine ⟨by first | rfl | (simp;done) | (simp;omega),?_⟩;conv=>whnf)))
    ·have hke:k=rules[i].2.1.length:=by simp at hb;omega
     subst hke
     clear hb
     repeat (refine gw rfl ?_;conv=>whnf)
     refine WP.loop (α:=Nat) (fun k=>⟨[(1,.d (.ref [.list (atoms.map enT),.list (rules.map enG)] 0)),(5,.ptr 5 0),(6,.func (.func 112) [] [.d (.ref [.list (atoms.map enT),.list (rules.map enG)] 0),.ptr 4 0,.ptr 5 0]),(20,.d (.list (rules.map enG))),(21,.d (.int .i64 rules.length)),(22,.d (.int .i64 i)),(8,.ptr 8 0),(40,.d (.list (rules[i].2.2.map enI))),(41,.d (.int .i64 rules[i].2.2.length)),(42,.d (.int .i64 k))],[((4,0),some (.cell (.map 17))),((17,0),some (.map (mpE (egR atoms rules[i] E0 (rules[i].2.1.length+k))))),((5,0),some (.cell (.sl 18 3 0 (egR atoms rules[i] E0 (rules[i].2.1.length+k)).length))),((18,0),some (.arr 3 ((egR atoms rules[i] E0 (rules[i].2.1.length+k)).map enR))),((8,0),some (.cell (.d (.int .i64 rules[i].1)))),((8,1),some (.cell (.d (.list (rules[i].2.1.map enI))))),((8,2),some (.cell (.d (.list (rules[i].2.2.map enI)))))],[4,17,5,18,8]⟩)
      (fun k=>k≤rules[i].2.2.length∧(egR atoms rules[i] E0 (rules[i].2.1.length+k)).length≤E0.length+rules[i].2.1.length+k) (fun k=>rules[i].2.2.length-k) 0 [(4,some 4),(17,some 17),(5,some 5),(18,some 18),(8,some 8)] [] ?_ ?_ ?_
     ·rw [List.length_map]
      ((conv=>whnf);repeat (first | exact ⟨⟩ | (refine ⟨by first | rfl | (simp;done) | (simp;omega),?_⟩;conv=>whnf)))
     ·exact ⟨Nat.zero_le _,hEk⟩
     ·rintro k ⟨hk,hEk⟩
      repeat (refine gw rfl ?_;conv=>whnf)
      (split<;>rename_i hb<;>(try rw [hb])<;>(conv=>whnf))
      ·have hlk:k<rules[i].2.2.length:=by simpa using hb
       clear hb
       repeat (refine gw rfl ?_;conv=>whnf)
       refine ⟨by omega,_,ak hlk,rfl,?_⟩
       conv=>whnf
       repeat (refine gw rfl ?_;conv=>whnf)
       have hyr:=hbd.2 rules[i].2.2[k] (List.getElem_mem hlk)
       have hyl:rules[i].2.2[k].toNat<atoms.length:=by omega
       have hsc:=lU atoms rules[i] E0 (rules[i].2.1.length+k)
       rw [Uw hlk] at hsc
       generalize hE1:egR atoms rules[i] E0 (rules[i].2.1.length+k)=E1 at hEk hsc ⊢
       by_cases hmem:(nameAt atoms rules[i].1,nameAt atoms rules[i].2.2[k],true)∈E1
       ·rw [LV hmem] at hsc
        refine .inr ⟨_,_,_,_,_,_,Tryz.U2 atoms rules E1 rules[i].1 rules[i].2.2[k] true (by omega) (by omega) (by omega) hyl hmem,[(4,4),(17,17),(5,5),(18,18)],[],rfl,rfl,?_⟩
        conv=>whnf
        refine ⟨rfl,rfl,rfl,rfl,?_⟩
        conv=>whnf
        repeat (refine gw rfl ?_;conv=>whnf)
        refine ⟨by omega,?_⟩
        conv=>whnf
        refine ⟨k+1,[(4,some 4),(17,some 17),(5,some 5),(18,some 18),(8,some 8)],[],?_,⟨by omega,by rw [show rules[i].2.1.length+(k+1)=rules[i].2.1.length+k+1 by omega,hsc];omega⟩,by omega⟩
        rw [show rules[i].2.1.length+(k+1)=rules[i].2.1.length+k+1 by omega,hsc]
        ((conv=>whnf);repeat (first | exact ⟨⟩ | (refine ⟨by first | rfl | (simp;done) | (simp;omega),?_⟩;conv=>whnf)))
       ·rw [LW hmem] at hsc
        refine .inr ⟨_,_,_,_,_,_,Tryz.U3 atoms rules E1 rules[i].1 rules[i].2.2[k] true (by omega) (by omega) (by omega) hyl hmem (by omega),[(4,4),(17,17),(5,5),(18,18),(42,50)],[50],rfl,rfl,?_⟩
        conv=>whnf
        refine ⟨rfl,rfl,rfl,rfl,?_⟩
        conv=>whnf
        repeat (refine gw rfl ?_;conv=>whnf)
        refine ⟨by omega,?_⟩
        conv=>whnf
        have hll:(E1++[(nameAt atoms rules[i].1,nameAt atoms rules[i].2.2[k],true)]).length=E1.length+1:=by simp
        refine ⟨k+1,[(4,some 4),(17,some 17),(5,some 5),(18,some 50),(8,some 8)],[],?_,⟨by omega,by rw [show rules[i].2.1.length+(k+1)=rules[i].2.1.length+k+1 by omega,hsc,hll];omega⟩,by omega⟩
        rw [show rules[i].2.1.length+(k+1)=rules[i].2.1.length+k+1 by omega,hsc,hll]
        ((conv=>whnf);repeat (first | exact ⟨⟩ | (refine ⟨by first | rfl | (simp;done) | (simp;omega),?_⟩;conv=>whnf)))
      ·have hke:k=rules[i].2.2.length:=by simp at hb;omega
       subst hke
       clear hb
       repeat (refine gw rfl ?_;conv=>whnf)
       refine ⟨by omega,?_⟩
       conv=>whnf
       have hsn:=Gz (atoms:=atoms) (E:=[]) hlt
       rw [hE0] at hsn
       unfold szR at hsn
       refine ⟨i+1,[(4,some 4),(17,some 17),(5,some 5),(18,some 18)],[],?_,⟨by omega,by rw [hsn];omega⟩,by omega⟩
       rw [hsn]
       ((conv=>whnf);repeat (first | exact ⟨⟩ | (refine ⟨by first | rfl | (simp;done) | (simp;omega),?_⟩;conv=>whnf)))
  ·have:i=rules.length:=by simp at hb;omega
   subst this
   clear hb
   rw [List.take_length] at hEl ⊢
   have hnd:=Gy (atoms:=atoms) (rules:=rules) (E:=[]) (by simp)
   have hie:=Oa hin
   generalize dX atoms rules []=L at hEl hnd hie ⊢
   have hdist:∀ e∈L,e.1≠dist∧e.2.1≠dist:=fun e he=>by
    obtain ⟨h1,h2⟩:=hie e he
    obtain ⟨t,ht,e1⟩:=Aq.1 h1
    obtain ⟨u,hu,e2⟩:=Aq.1 h2
    exact ⟨e1 ▸ hnm t ht,e2 ▸ hnm u hu⟩
   refine WP.weak (l':=⟨[(1,.d (.ref [.list (atoms.map enT),.list (rules.map enG)] 0)),(5,.ptr 5 0)],[((5,0),some (.cell (.d (.list (L.map enR)))))],[5]⟩) [(5,some 5)] [18] ?_ ?_
   ·((conv=>whnf);repeat (first | exact ⟨⟩ | (refine ⟨by first | rfl | (simp;done) | (simp;omega),?_⟩;conv=>whnf)))
    refine ⟨L.map enR,by rw [List.drop_zero];exact List.take_of_length_le (by simp),by simp,rfl,?_⟩
    ((conv=>whnf);repeat (first | exact ⟨⟩ | (refine ⟨by first | rfl | (simp;done) | (simp;omega),?_⟩;conv=>whnf)))
   repeat (refine gw rfl ?_;conv=>whnf)
   refine .inl ⟨_,Tryz.levels L hdist hnd (by omega),.inl rfl,?_⟩
   rw [Nz hie]
   unfold strD
   cases hlv:dP (nmS atoms) L with
   | none=>
     dsimp only
     conv=>whnf
     repeat (refine gw rfl ?_;conv=>whnf)
   | some lv=>
     dsimp only
     conv=>whnf
     repeat (refine gw rfl ?_;conv=>whnf)
     rw [List.length_map]
     refine ⟨⟨by omega,by omega,by omega,by show 8*_≤_;omega⟩,?_⟩
     conv=>whnf
     refine ⟨rfl,?_⟩
     conv=>whnf
     repeat (refine gw rfl ?_;conv=>whnf)
     rw [Int.toNat_natCast]
     refine WP.loop (α:=Nat) (fun i=>⟨[(1,.d (.ref [.list (atoms.map enT),.list (rules.map enG)] 0)),(13,.d (.list (lvD (qA L) lv))),(15,.sl 64 1 0 atoms.length),(66,.d (.int .i64 atoms.length)),(67,.d (.int .i64 i))],[((64,0),some (.arr 1 (kH (fun t:Tm=>D.int .i64 (ofL t.name ((nmS atoms).map fun n=>(n,((lv n:Nat):Int))))) (.int .i64 0) atoms i)))],[64]⟩)
      (fun i=>i≤atoms.length) (fun i=>atoms.length-i) 0 [(64,some 64)] [] ?_ ?_ ?_
     ·rw [Dp]
      ((conv=>whnf);repeat (first | exact ⟨⟩ | (refine ⟨by first | rfl | (simp;done) | (simp;omega),?_⟩;conv=>whnf)))
     ·exact Nat.zero_le _
     ·intro i hi
      repeat (refine gw rfl ?_;conv=>whnf)
      (split<;>rename_i hb<;>(try rw [hb])<;>(conv=>whnf))
      ·have hlt:i<atoms.length:=by simpa using hb
       clear hb
       have hof:=Tryz.ofP ((qA L).map fun n=>(n,((lv n:Nat):Int))) atoms[i].name (by rw [List.length_map];have:=JI L;omega)
       rw [← Ij] at hof
       have hsm:=of_same hlv (Aq.2 ⟨atoms[i],List.getElem_mem hlt,rfl⟩:atoms[i].name∈nmS atoms)
       repeat (refine gw rfl ?_;conv=>whnf)
       refine ⟨by omega,_,dA hlt,rfl,?_⟩
       conv=>whnf
       refine .inl ⟨_,hof,.inl rfl,?_⟩
       conv=>whnf
       rw [hsm]
       refine ⟨by omega,?_⟩
       rw [Int.toNat_natCast]
       conv=>whnf
       refine ⟨rfl,_,by rw [Nat.zero_add];exact List.getElem?_eq_getElem (by rw [Gw (by omega)];exact hlt),?_⟩
       conv=>whnf
       refine .inl ⟨rfl,rfl,?_⟩
       rw [Nat.zero_add,show List.set (kH (fun t:Tm=>D.int .i64 (ofL t.name ((nmS atoms).map fun n=>(n,((lv n:Nat):Int))))) (.int .i64 0) atoms i) i _=_ from Gv (f:=(fun t:Tm=>D.int .i64 (ofL t.name ((nmS atoms).map fun n=>(n,((lv n:Nat):Int)))))) hlt]
       conv=>whnf
       repeat (refine gw rfl ?_;conv=>whnf)
       refine ⟨by omega,?_⟩
       conv=>whnf
       refine ⟨i+1,[(64,some 64)],[],?_,by omega,by omega⟩
       ((conv=>whnf);repeat (first | exact ⟨⟩ | (refine ⟨by first | rfl | (simp;done) | (simp;omega),?_⟩;conv=>whnf)))
      ·have:i=atoms.length:=by simp at hb;omega
       subst this
       clear hb
       rw [Dq]
       repeat (refine gw rfl ?_;conv=>whnf)
       refine ⟨atoms.map (fun t:Tm=>D.int .i64 (ofL t.name ((nmS atoms).map fun n=>(n,((lv n:Nat):Int))))),by rw [List.drop_zero];exact List.take_of_length_le (by simp),by simp,?_⟩
       conv=>whnf
theorem Tryz.OH (atoms:List Tm) (rules:List Gr) (hok:∀ x∈atoms,okT x) (hv:aP atoms rules=true) (hn:atoms.length≤64) (hr:rules.length≤128) (hf:∀ r∈rules,r.2.1.length+r.2.2.length≤16) :
  Pure Tryz.prog 31 [gD atoms rules] (strD atoms (nmS atoms) (dX atoms rules [])):=by
 have hfit:yY rules:=fun r h=>by have:=hf r h;omega
 have hs:=Tryz.OG atoms rules hok hv hn hr hf
 unfold strD at hs ⊢
 refine Pure.of_wp hT (nt:=_) (c:=_) Tryz.func31 rfl rfl rfl rfl (by kernel_rfl) ?_
 intro w0 ok0 β0
 repeat (refine gw rfl ?_;conv=>whnf)
 refine .inl ⟨_,Tryz.AX atoms rules hok hfit,.inl rfl,?_⟩
 rw [hv]
 conv=>whnf
 repeat (refine gw rfl ?_;conv=>whnf)
 cases hlv:dP (nmS atoms) (dX atoms rules []) with
 | none=>
   rw [hlv] at hs;dsimp only at hs
   refine .inl ⟨_,hs,.inl rfl,?_⟩
   conv=>whnf
   repeat (refine gw rfl ?_;conv=>whnf)
 | some lv=>
   rw [hlv] at hs;dsimp only at hs
   refine .inl ⟨_,hs,.inl rfl,?_⟩
   conv=>whnf
   repeat (refine gw rfl ?_;conv=>whnf)
end Go.Proofs.YtdonenoiehdahaaGreat
namespace Go.Own
def iH (str:List Int) (s round:Int) (q:List Int×Bool) (r:Gr):List Int×Bool:=match decide (rkI q.1 r.1<0)&&xH str q.1 s round r with
 | true=>(q.1.set r.1.toNat round,true)
 | false=>q
def uJ (str:List Int) (s:Int) (rules:List Gr) (round:Int) (rk:List Int):List Int×Bool:=rules.foldl (iH str s round) (rk,false)
def iC (str:List Int) (s:Int) (rules:List Gr):Nat→Int→List Int→List Int
 | 0,_,rk=>rk
 | f+1,round,rk=>match (uJ str s rules round rk).2 with
   | true=>iC str s rules f (round+1) (uJ str s rules round rk).1
   | false=>(uJ str s rules round rk).1
def jm (str:List Int):Int:=str.foldl (fun m s=>if s>m then s else m) 0
def inS (str:List Int) (s:Nat) (r:Gr):Bool:=decide (rkI str r.1=(s:Nat))
def je (n:Nat) (str:List Int) (rules:List Gr) (k:Nat):List Int:=(List.range k).foldl (fun rk s=>iC str (s:Nat) (rules.filter (inS str s)) (n+1) 1 rk) (List.replicate n (-1))
def jf (n:Nat) (str:List Int) (rules:List Gr):List Int:=je n str rules ((jm str).toNat+1)
theorem mP:∀ (l:List Int) (m:Int),(∀ s∈l,s≤l.foldl (fun m s=>if s>m then s else m) m)∧m≤l.foldl (fun m s=>if s>m then s else m) m∧(∀ b,m≤b→(∀ s∈l,s≤b)→l.foldl (fun m s=>if s>m then s else m) m≤b)
 | [],m=>⟨(fun s h=>by cases h),Int.le_refl _,fun b h _=>h⟩
 | x::l,m=>by
   obtain ⟨h1,h2,h3⟩:=mP l (if x>m then x else m)
   have h4:x≤(if x>m then x else m)∧m≤(if x>m then x else m):=by split<;>omega
   refine ⟨fun s hs=>?_,Int.le_trans h4.2 h2,fun b hb hl=>h3 b ?_ fun s hs=>hl s (by simp [hs])⟩
   ·rcases List.mem_cons.1 hs with rfl | hs
    ·exact Int.le_trans h4.1 h2
    ·exact h1 s hs
   ·have:=hl x (by simp)
    split<;>omega
theorem Fg (str:List Int) (s round:Int) (q:List Int×Bool) (r:Gr):(iH str s round q r).1.length=q.1.length:=by
 unfold iH;split<;>simp
theorem yT (str:List Int) (s round:Int):∀ (l:List Gr) (q:List Int×Bool),(l.foldl (iH str s round) q).1.length=q.1.length
 | [],q=>rfl
 | r::l,q=>by rw [List.foldl_cons,yT str s round l,Fg]
theorem L9 {str:List Int} {s round:Int} (hr:0≤round) {q:List Int×Bool} {r:Gr} (hi:r.1.toNat<q.1.length):kT (iH str s round q r).1≤kT q.1∧((iH str s round q r).2=true→q.2=true∨kT (iH str s round q r).1<kT q.1):=by
 unfold iH
 cases hb:decide (rkI q.1 r.1<0)&&xH str q.1 s round r with
 | false=>exact ⟨Nat.le_refl _,fun h => .inl h⟩
 | true=>
   rw [Bool.and_eq_true] at hb
   have h1:=of_decide_eq_true hb.1
   rw [sV hi] at h1
   have:=J6 hi h1 hr
   exact ⟨by dsimp only;omega,fun _ => .inr (by dsimp only;omega)⟩
theorem Dj {str:List Int} {s round:Int} (hr:0≤round):∀ {l:List Gr} {q:List Int×Bool},(∀ r∈l,r.1.toNat<q.1.length)→kT (l.foldl (iH str s round) q).1≤kT q.1∧((l.foldl (iH str s round) q).2=true→q.2=true∨kT (l.foldl (iH str s round) q).1<kT q.1)
 | [],q,_=>⟨Nat.le_refl _,fun h => .inl h⟩
 | r::l,q,h=>by
   obtain ⟨h1,h2⟩:=L9 (str:=str) (s:=s) hr (h r (by simp))
   obtain ⟨h3,h4⟩:=Dj (str:=str) (s:=s) hr (l:=l) (q:=iH str s round q r) fun x hx=>by rw [Fg];exact h x (by simp [hx])
   rw [List.foldl_cons]
   refine ⟨Nat.le_trans h3 h1,fun h5=>?_⟩
   rcases h4 h5 with h6 | h6
   ·rcases h2 h6 with h7 | h7
    ·exact .inl h7
    ·exact .inr (by omega)
   ·exact .inr (by omega)
def qw (str:List Int) (rules:List Gr) (i s:Nat):List Gr:=(rules.take i).filter (inS str s)
end Go.Own
namespace Go.Proofs.YtdonenoiehdahaaGreat
open Go Go.Abs Go.Own
attribute [local irreducible] WP
def rsD (m:Nat) (str:List Int) (rules:List Gr) (i:Nat):List (List D):=(List.range m).map fun s=>(qw str rules i s).map enG
theorem wM (m:Nat) (str:List Int) (rules:List Gr) (i:Nat):(rsD m str rules i).length=m:=by simp [rsD]
theorem Sj (m:Nat) (str:List Int) (rules:List Gr):List.replicate m ([]:List D)=rsD m str rules 0:=by
 refine List.ext_getElem (by simp [rsD]) fun i h1 h2=>by simp [rsD,qw]
theorem Ak {m:Nat} {str:List Int} {rules:List Gr} {i s:Nat} (h:s<m):(rsD m str rules i)[s]?=some ((qw str rules i s).map enG):=by
 unfold rsD
 rw [List.getElem?_map,List.getElem?_range h];rfl
theorem Qr (str:List Int) (rules:List Gr) (i s:Nat):(qw str rules i s).length≤rules.length:=by
 unfold qw
 exact Nat.le_trans (List.length_filter_le _ _) (by rw [List.length_take];omega)
theorem RX {α:Type} {l:List α} {i:Nat} {x:α} (h:l[i]?=some x):l.set i x=l:=by
 obtain ⟨hi,rfl⟩:=List.getElem?_eq_some_iff.1 h
 exact List.set_getElem_self hi
theorem Sl {m:Nat} {str:List Int} {rules:List Gr} {i:Nat} (hi:i<rules.length) (h0:0≤rkI str rules[i].1) :
  (rsD m str rules i).set (rkI str rules[i].1).toNat ((qw str rules i (rkI str rules[i].1).toNat).map enG++[enG rules[i]])=rsD m str rules (i+1):=by
 refine List.ext_getElem? fun a=>?_
 have hs:∀ s,qw str rules (i+1) s=qw str rules i s++(match inS str s rules[i] with | true=>[rules[i]] | false=>[]):=fun s=>by
  unfold qw
  rw [List.take_succ_eq_append_getElem hi,List.filter_append]
  cases hb:inS str s rules[i] with
  | true=>rw [List.filter_cons_of_pos hb];rfl
  | false=>rw [List.filter_cons_of_neg (by rw [hb];simp)];rfl
 by_cases ha:a<m
 ·rw [Ak ha,hs]
  by_cases e:(rkI str rules[i].1).toNat=a
  ·rw [← e,List.getElem?_set_self (by rw [wM];omega),show inS str (rkI str rules[i].1).toNat rules[i]=true from decide_eq_true (by omega),List.map_append]
   rfl
  ·rw [List.getElem?_set_ne e,Ak ha,show inS str a rules[i]=false from decide_eq_false (by omega),List.append_nil]
 ·rw [List.getElem?_eq_none (by rw [List.length_set,wM];omega),List.getElem?_eq_none (by rw [wM];omega)]
set_option maxRecDepth 10000 in
theorem Tryz.Vq (atoms:List Tm) (rules:List Gr) (str:List Int) (hin:eH atoms.length rules) (hn:atoms.length≤64) (hr:rules.length≤128) (hf:∀ r∈rules,r.2.1.length+r.2.2.length≤16) (hsl:str.length=atoms.length) (hs:∀ s∈str,0≤s∧s≤1000) :
  aG Tryz.prog 146 [] [.d (gD atoms rules),.d (.list (str.map enI)),.aF] [] [] [.d (.list ((jf atoms.length str rules).map enI))] []:=by
 have hm1:=mP str 0
 have hmost:0≤jm str∧jm str≤1000∧∀ s∈str,s≤jm str:=⟨hm1.2.1,hm1.2.2 1000 (by omega) fun s h=>(hs s h).2,hm1.1⟩
 clear hm1
 obtain ⟨n,hnn⟩:∃ n,atoms.length=n:=⟨_,rfl⟩
 rw [hnn] at hin hn hsl ⊢
 refine aG.of_wp hT (nt:=_) (c:=_) Tryz.func146 rfl rfl rfl rfl (by kernel_rfl) rfl rfl ?_
 intro w0 ok0 wr β0
 repeat (refine gw rfl ?_;conv=>whnf)
 have hnl:(atoms.map enT).length=n:=by rw [List.length_map,hnn]
 refine ⟨⟨by omega,by omega,by omega,by show 8*_≤_;omega⟩,?_⟩
 conv=>whnf
 refine ⟨rfl,?_⟩
 rw [Int.toNat_natCast,hnl,show List.replicate n (D.int .i64 0)=kH enI (.int .i64 0) (List.replicate n (-1)) 0 from by rw [Dp,List.length_replicate]]
 conv=>whnf
 repeat (refine gw rfl ?_;conv=>whnf)
 refine WP.loop (α:=Nat) (fun i=>⟨[(1,.d (.list (str.map enI))),(2,.aF),(3,.d (.ref [.list (atoms.map enT),.list (rules.map enG)] 0)),(7,.sl 60 1 0 n),(28,.d (.int .i64 n)),(29,.d (.int .i64 i))],[((60,0),some (.arr 1 (kH enI (.int .i64 0) (List.replicate n (-1)) i)))],[60]⟩)
  (fun i=>i≤n) (fun i=>n-i) 0 [(60,some 26)] [] ?_ ?_ ?_
 ·((conv=>whnf);repeat (first | exact ⟨⟩ | (refine ⟨by first | rfl | (simp;done) | (simp;omega),?_⟩;conv=>whnf)))
 ·exact Nat.zero_le _
 ·intro i hi
  repeat (refine gw rfl ?_;conv=>whnf)
  (split<;>rename_i hb<;>(try rw [hb])<;>(conv=>whnf))
  ·have hlt:i<n:=by simpa using hb
   clear hb
   repeat (refine gw rfl ?_;conv=>whnf)
   refine ⟨⟨by omega,by omega⟩,?_⟩
   rw [Int.toNat_natCast]
   conv=>whnf
   refine ⟨rfl,_,by rw [Nat.zero_add];exact List.getElem?_eq_getElem (by rw [Gw (by simp;omega)];simpa using hlt),?_⟩
   conv=>whnf
   refine .inl ⟨rfl,rfl,?_⟩
   rw [Nat.zero_add,show List.set (kH enI (.int .i64 0) (List.replicate n (-1)) i) i (.int .i64 (-1))=kH enI (.int .i64 0) (List.replicate n (-1)) (i+1) from by
    have:=Gv (f:=enI) (z := .int .i64 0) (l:=List.replicate n (-1)) (i:=i) (by simpa using hlt)
    rw [List.getElem_replicate] at this
    exact this]
   conv=>whnf
   repeat (refine gw rfl ?_;conv=>whnf)
   refine ⟨by omega,?_⟩
   conv=>whnf
   refine ⟨i+1,[(60,some 60)],[],?_,by omega,by omega⟩
   ((conv=>whnf);repeat (first | exact ⟨⟩ | (refine ⟨by first | rfl | (simp;done) | (simp;omega),?_⟩;conv=>whnf)))
  ·have hin':i=n:=by simp at hb;omega
   subst hin'
   clear hb
   rw [show kH enI (.int .i64 0) (List.replicate i (-1)) i=(List.replicate i (-1)).map enI from by
    have:=Dq enI (.int .i64 0) (List.replicate i (-1))
    rwa [List.length_replicate] at this]
   repeat (refine gw rfl ?_;conv=>whnf)
   refine WP.loop (α:=Unit) (fun _=>⟨[(1,.d (.list (str.map enI))),(3,.d (.ref [.list (atoms.map enT),.list (rules.map enG)] 0)),(7,.sl 60 1 0 i),(37,.d (.int .i64 0)),(38,.d (.int .i64 0))],[((60,0),some (.arr 1 ((List.replicate i (-1)).map enI)))],[60]⟩)
    (fun _=>True) (fun _=>0) () [(60,some 60)] [] ?_ ?_ ?_
   ·((conv=>whnf);repeat (first | exact ⟨⟩ | (refine ⟨by first | rfl | (simp;done) | (simp;omega),?_⟩;conv=>whnf)))
   ·trivial
   ·rintro _ _
    repeat (refine gw rfl ?_;conv=>whnf)
    refine WP.loop (α:=Nat) (fun k=>⟨[(1,.d (.list (str.map enI))),(3,.d (.ref [.list (atoms.map enT),.list (rules.map enG)] 0)),(7,.sl 60 1 0 i),(11,.d (.int .i64 (jm (str.take k)))),(46,.d (.list (str.map enI))),(47,.d (.int .i64 str.length)),(48,.d (.int .i64 k))],[((60,0),some (.arr 1 ((List.replicate i (-1)).map enI)))],[60]⟩)
     (fun k=>k≤str.length) (fun k=>str.length-k) 0 [(60,some 60)] [] ?_ ?_ ?_
    ·rw [List.length_map]
     ((conv=>whnf);repeat (first | exact ⟨⟩ | (refine ⟨by first | rfl | (simp;done) | (simp;omega),?_⟩;conv=>whnf)))
    ·exact Nat.zero_le _
    ·intro k hk
     repeat (refine gw rfl ?_;conv=>whnf)
     (split<;>rename_i hb<;>(try rw [hb])<;>(conv=>whnf))
     ·have hlk:k<str.length:=by simpa using hb
      clear hb
      repeat (refine gw rfl ?_;conv=>whnf)
      refine ⟨by omega,_,ak hlk,rfl,?_⟩
      conv=>whnf
      repeat (refine gw rfl ?_;conv=>whnf)
      refine ⟨by omega,?_⟩
      conv=>whnf
      refine ⟨k+1,[(60,some 60)],[],?_,by omega,by omega⟩
      rw [show jm (str.take (k+1))=if str[k]>jm (str.take k) then str[k] else jm (str.take k) from aY _ _ _ hlk]
      ((conv=>whnf);repeat (first | exact ⟨⟩ | (refine ⟨by first | rfl | (simp;done) | (simp;omega),?_⟩;conv=>whnf)))
     ·have hke:k=str.length:=by simp at hb;omega
      subst hke
      clear hb
      rw [List.take_length]
      refine gw rfl ?_
      conv=>whnf
      refine W1 ?_
      refine W2 hT hM [58] ?_
      conv=>whnf
      obtain ⟨M,hMo⟩:∃ M:Nat,jm str=M:=⟨(jm str).toNat,by omega⟩
      have hRF:jf i str rules=je i str rules (M+1):=by unfold jf;rw [hMo,Int.toNat_natCast]
      rw [hRF,hMo]
      rw [hMo] at hmost
      refine ⟨by omega,?_⟩
      conv=>whnf
      refine ⟨⟨by omega,by omega,by omega,by show ((24:Nat):Int)*((M:Int)+1)≤281474976710656;omega⟩,?_⟩
      rw [show ((M:Int)+1)=((M+1:Nat):Int) by omega,Int.toNat_natCast,Sj (M+1) str rules]
      conv=>whnf
      repeat (refine gw rfl ?_;conv=>whnf)
      refine WP.loop (α:=Nat) (fun k=>⟨[(1,.d (.list (str.map enI))),(3,.d (.ref [.list (atoms.map enT),.list (rules.map enG)] 0)),(7,.sl 60 1 0 i),(11,.d (.int .i64 M)),(14,.rsl 58 (M+1)),(60,.d (.list (rules.map enG))),(61,.d (.int .i64 rules.length)),(62,.d (.int .i64 k))],
        [((60,0),some (.arr 1 ((List.replicate i (-1)).map enI))),((58,0),some (.rows 3 (rsD (M+1) str rules k) none))],[60,58]⟩)
       (fun k=>k≤rules.length) (fun k=>rules.length-k) 0 [(60,some 60),(58,some 58)] [] ?_ ?_ ?_
      ·rw [List.length_map]
       ((conv=>whnf);repeat (first | exact ⟨⟩ | (refine ⟨by first | rfl | (simp;done) | (simp;omega),?_⟩;conv=>whnf)))
      ·exact Nat.zero_le _
      ·intro k hk
       repeat (refine gw rfl ?_;conv=>whnf)
       (split<;>rename_i hb<;>(try rw [hb])<;>(conv=>whnf))
       ·have hlk:k<rules.length:=by simpa using hb
        clear hb
        have hmh:=hin.head rules[k] (List.getElem_mem hlk)
        have hgk:(rules.map enG)[((k:Nat):Int).toNat]?=some (enG rules[k]):=ak hlk
        have hsc:=fun h=>Sl (m:=M+1) (str:=str) (i:=k) hlk h
        have hrl:=fun s=>Qr str rules k s
        have hil:rules[k].1.toNat<str.length:=by omega
        have hsm:rkI str rules[k].1∈str:=by rw [sV hil];exact List.getElem_mem hil
        have hsb:=hs _ hsm
        have hsM:=hmost.2.2 _ hsm
        repeat (refine gw rfl ?_;conv=>whnf)
        refine ⟨by omega,_,hgk,rfl,?_⟩
        conv=>whnf
        repeat (refine gw rfl ?_;conv=>whnf)
        refine ⟨hmh.1,_,NH hil,rfl,?_⟩
        conv=>whnf
        refine ⟨hmh.1,_,NH hil,rfl,?_⟩
        conv=>whnf
        refine ⟨⟨hsb.1,by omega⟩,?_⟩
        conv=>whnf
        refine ⟨_,Ak (show (rkI str rules[k].1).toNat<M+1 by omega),?_⟩
        conv=>whnf
        refine ⟨rfl,?_⟩
        conv=>whnf
        have hrl':=hrl (rkI str rules[k].1).toNat
        refine ⟨_,by rw [List.drop_zero,List.take_length],by omega,?_⟩
        conv=>whnf
        refine ⟨_,rfl,Nat.le_refl _,?_⟩
        conv=>whnf
        refine ⟨by show (_+1)*56≤_;rw [List.length_map];omega,?_⟩
        conv=>whnf
        refine ⟨⟨hsb.1,by omega⟩,?_⟩
        conv=>whnf
        refine ⟨⟨by rw [wM];omega,rfl⟩,(qw str rules k (rkI str rules[k].1).toNat).map enG++[enG rules[k]],by rw [List.drop_zero];exact List.take_of_length_le (by simp),by simp,?_⟩
        conv=>whnf
        rw [hsc hsb.1]
        repeat (refine gw rfl ?_;conv=>whnf)
        refine ⟨by omega,?_⟩
        conv=>whnf
        refine ⟨k+1,[(60,some 60),(58,some 58)],[],?_,by omega,by omega⟩
        ((conv=>whnf);repeat (first | exact ⟨⟩ | (refine ⟨by first | rfl | (simp;done) | (simp;omega),?_⟩;conv=>whnf)))
       ·have hke:k=rules.length:=by simp at hb;omega
        subst hke
        clear hb
        have hrs:∀ s,qw str rules rules.length s=rules.filter (inS str s):=fun s=>by unfold qw;rw [List.take_length]
        have hzero:(List.replicate i (-1):List Int)=je i str rules 0:=rfl
        rw [hzero]
        repeat (refine gw rfl ?_;conv=>whnf)
        refine ⟨by omega,?_⟩
        conv=>whnf
        repeat (refine gw rfl ?_;conv=>whnf)
        refine WP.loop (α:=Nat) (fun k=>⟨[(1,.d (.list (str.map enI))),(7,.sl 60 1 0 i),(14,.rsl 58 (M+1)),(86,.d (.int .i64 (M+1))),(87,.d (.int .i64 k))],[((60,0),some (.arr 1 ((je i str rules k).map enI))),((58,0),some (.rows 3 (rsD (M+1) str rules rules.length) none))],[60,58]⟩)
         (fun k=>k≤M+1∧(je i str rules k).length=i) (fun k=>M+1-k) 0 [(60,some 60),(58,some 58)] [] ?_ ?_ ?_
        ·((conv=>whnf);repeat (first | exact ⟨⟩ | (refine ⟨by first | rfl | (simp;done) | (simp;omega),?_⟩;conv=>whnf)))
        ·exact ⟨Nat.zero_le _,by simp [je]⟩
        ·rintro k ⟨hk,hkl⟩
         have hks:je i str rules (k+1)=iC str (k:Nat) (rules.filter (inS str k)) (i+1) 1 (je i str rules k):=by
          unfold je;rw [List.range_succ,List.foldl_append];rfl
         have hrowk:=hrs k
         have hgetk:=fun h=>Ak (m:=M+1) (str:=str) (rules:=rules) (i:=rules.length) (s:=k) h
         rw [hrowk] at hgetk
         have hrm:∀ r∈rules.filter (inS str k),r∈rules:=fun r h=>(List.mem_filter.1 h).1
         have hrll:(rules.filter (inS str k)).length≤rules.length:=List.length_filter_le _ _
         generalize rules.filter (inS str k)=rl at hks hgetk hrm hrll
         clear hrowk
         generalize hfe:je i str rules (k+1)=fin at hks
         repeat (refine gw rfl ?_;conv=>whnf)
         (split<;>rename_i hb<;>(try rw [hb])<;>(conv=>whnf))
         ·have hlk:k<M+1:=by simp at hb;omega
          clear hb
          repeat (refine gw rfl ?_;conv=>whnf)
          refine WP.loop (α:=Int×List Int×Bool×Nat) (fun y=>⟨[(1,.d (.list (str.map enI))),(7,.sl 60 1 0 i),(14,.rsl 58 (M+1)),(86,.d (.int .i64 (M+1))),(87,.d (.int .i64 k)),(17,.d (.int .i64 (k:Nat))),(18,.d (.int .i64 y.1)),(19,.d (.bool y.2.2.1))],[((60,0),some (.arr 1 (y.2.1.map enI))),((58,0),some (.rows 3 (rsD (M+1) str rules rules.length) none))],[60,58]⟩)
           (fun y=>y.2.1.length=i∧1≤y.1∧y.1+y.2.2.2≤100∧(y.2.2.1=true→kT y.2.1<y.2.2.2∧iC str (k:Nat) rl y.2.2.2 y.1 y.2.1=fin)∧(y.2.2.1=false→y.2.1=fin)) (fun y=>y.2.2.2)
           (1,je i str rules k,true,i+1) [(60,some 60),(58,some 58)] [] ?_ ?_ ?_
          ·((conv=>whnf);repeat (first | exact ⟨⟩ | (refine ⟨by first | rfl | (simp;done) | (simp;omega),?_⟩;conv=>whnf)))
          ·exact ⟨hkl,Int.le_refl _,by dsimp only;omega,fun _=>⟨by have:=List.length_filter_le (fun x:Int=>decide (x<0)) (je i str rules k);unfold kT;dsimp only;omega,hks.symm⟩,fun h=>by cases h⟩
          ·rintro ⟨round,rk,ch,fuel⟩ ⟨hrk,hro1,hro2,hch,hcf⟩
           dsimp only at hrk hro1 hro2 hch hcf ⊢
           repeat (refine gw rfl ?_;conv=>whnf)
           cases ch with
           | false=>
             have hfin:=hcf rfl
             subst hfin
             conv=>whnf
             repeat (refine gw rfl ?_;conv=>whnf)
             refine ⟨by omega,?_⟩
             conv=>whnf
             refine ⟨k+1,[(60,some 60),(58,some 58)],[],?_,⟨by omega,by rw [hfe];exact hrk⟩,by omega⟩
             rw [hfe]
             ((conv=>whnf);repeat (first | exact ⟨⟩ | (refine ⟨by first | rfl | (simp;done) | (simp;omega),?_⟩;conv=>whnf)))
           | true=>
             obtain ⟨hng,hrr⟩:=hch rfl
             clear hch hcf
             conv=>whnf
             repeat (refine gw rfl ?_;conv=>whnf)
             have c1:=Tryz.XH str rk (k:Nat) round
             rw [hrk] at c1
             refine .inr ⟨_,_,_,_,_,_,c1,[(200,60),(9,69),(5,65)],[69,65],rfl,rfl,?_⟩
             conv=>whnf
             refine ⟨rfl,?_⟩
             conv=>whnf
             repeat (refine gw rfl ?_;conv=>whnf)
             refine ⟨⟨by omega,by omega⟩,?_⟩
             rw [Int.toNat_natCast]
             conv=>whnf
             refine ⟨_,hgetk hlk,?_⟩
             conv=>whnf
             repeat (refine gw rfl ?_;conv=>whnf)
             refine WP.loop (α:=Nat) (fun j=>⟨[(1,.d (.list (str.map enI))),(7,.sl 60 1 0 i),(14,.rsl 58 (M+1)),(86,.d (.int .i64 (M+1))),(87,.d (.int .i64 k)),(17,.d (.int .i64 (k:Nat))),(18,.d (.int .i64 round)),(19,.d (.bool ((rl.take j).foldl (iH str (k:Nat) round) (rk,false)).2)),(20,.func (.func 176) [] [.ptr 69 0,.ptr 65 0]),(101,.sl 70 3 0 rl.length),(102,.d (.int .i64 rl.length)),(103,.d (.int .i64 j))],
               [((60,0),some (.arr 1 (((rl.take j).foldl (iH str (k:Nat) round) (rk,false)).1.map enI))),((69,0),some (.cell (.func (.func 175) [] [.ptr 65 0,.d (.ref [.list (str.map enI)] 0),.d (.ref [.int .i64 (k:Nat)] 0),.d (.ref [.int .i64 round] 0)]))),((65,0),some (.cell (.sl 60 1 0 i))),((58,0),some (.rows 3 (rsD (M+1) str rules rules.length) (some (k,70)))),((70,0),some (.arr 3 (rl.map enG)))],[60,69,65,58,70]⟩)
              (fun j=>j≤rl.length) (fun j=>rl.length-j) 0 [(60,some 60),(69,some 69),(65,some 65),(58,some 58),(70,some 101)] [] ?_ ?_ ?_
             ·rw [List.length_map]
              ((conv=>whnf);repeat (first | exact ⟨⟩ | (refine ⟨by first | rfl | (simp;done) | (simp;omega),?_⟩;conv=>whnf)))
             ·exact Nat.zero_le _
             ·intro j hj
              have hql:=yT str (k:Nat) round (rl.take j) (rk,false)
              have hqs:=fun (h:j<rl.length)=>aY (iH str (k:Nat) round) (rk,false) rl h
              dsimp only at hql
              rw [hrk] at hql
              generalize hqe:((rl.take j).foldl (iH str (k:Nat) round) (rk,false))=q at hql hqs ⊢
              repeat (refine gw rfl ?_;conv=>whnf)
              (split<;>rename_i hb<;>(try rw [hb])<;>(conv=>whnf))
              ·have hlj:j<rl.length:=by simpa using hb
               clear hb
               specialize hqs hlj
               have hrmj:=hrm _ (List.getElem_mem hlj)
               have hgj:(rl.map enG)[j]?=some (enG rl[j]):=by rw [List.getElem?_map,List.getElem?_eq_getElem hlj];rfl
               generalize rl[j]=r at hqs hrmj hgj
               have hmh:=hin.head r hrmj
               have hmb:=hin.body r hrmj
               have hfr:=hf r hrmj
               have c2:=Tryz.Yk str q.1 (k:Nat) round r (by omega) (fun x hx=>by have:=hmb.1 x hx;omega) (fun x hx=>by have:=hmb.2 x hx;omega) (by omega)
               rw [hql] at c2
               repeat (refine gw rfl ?_;conv=>whnf)
               refine ⟨⟨by omega,by omega⟩,?_⟩
               rw [Int.toNat_natCast]
               conv=>whnf
               refine ⟨_,by rw [Nat.zero_add];exact hgj,?_⟩
               conv=>whnf
               repeat (refine gw rfl ?_;conv=>whnf)
               refine ⟨⟨hmh.1,by omega⟩,?_⟩
               conv=>whnf
               refine ⟨_,rF (by omega),?_⟩
               conv=>whnf
               have hP0:∀ b,(decide (rkI q.1 r.1<0)&&xH str q.1 (k:Nat) round r)=b→iH str (k:Nat) round q r=match b with | true=>(q.1.set r.1.toNat round,true) | false=>q:=fun b e=>by subst e;rfl
               cases hd:decide (rkI q.1 r.1<0) with
               | false=>
                 have hP:iH str (k:Nat) round q r=q:=hP0 false (by rw [hd];rfl)
                 conv=>whnf
                 repeat (refine gw rfl ?_;conv=>whnf)
                 refine ⟨by omega,?_⟩
                 conv=>whnf
                 refine ⟨j+1,[(60,some 60),(69,some 69),(65,some 65),(58,some 58),(70,some 70)],[],?_,by omega,by omega⟩
                 rw [hqs,hP]
                 ((conv=>whnf);repeat (first | exact ⟨⟩ | (refine ⟨by first | rfl | (simp;done) | (simp;omega),?_⟩;conv=>whnf)))
               | true=>
                 conv=>whnf
                 refine .inr ⟨_,_,_,_,_,_,c2,[(9,69),(5,65),(200,60)],[],rfl,rfl,?_⟩
                 conv=>whnf
                 refine ⟨rfl,rfl,rfl,?_⟩
                 conv=>whnf
                 cases hfi:xH str q.1 (k:Nat) round r with
                 | false=>
                   have hP:iH str (k:Nat) round q r=q:=hP0 false (by rw [hd,hfi];rfl)
                   conv=>whnf
                   repeat (refine gw rfl ?_;conv=>whnf)
                   refine ⟨by omega,?_⟩
                   conv=>whnf
                   refine ⟨j+1,[(60,some 60),(69,some 69),(65,some 65),(58,some 58),(70,some 70)],[],?_,by omega,by omega⟩
                   rw [hqs,hP]
                   ((conv=>whnf);repeat (first | exact ⟨⟩ | (refine ⟨by first | rfl | (simp;done) | (simp;omega),?_⟩;conv=>whnf)))
                 | true=>
                   have hP:iH str (k:Nat) round q r=(q.1.set r.1.toNat round,true):=hP0 true (by rw [hd,hfi];rfl)
                   conv=>whnf
                   repeat (refine gw rfl ?_;conv=>whnf)
                   refine ⟨⟨hmh.1,by omega⟩,?_⟩
                   conv=>whnf
                   refine ⟨rfl,_,rF (by omega),?_⟩
                   conv=>whnf
                   refine .inl ⟨rfl,rfl,?_⟩
                   rw [Nat.zero_add,show (q.1.map enI).set r.1.toNat (.int .i64 round)=(q.1.set r.1.toNat round).map enI from List.map_set.symm]
                   conv=>whnf
                   repeat (refine gw rfl ?_;conv=>whnf)
                   refine ⟨by omega,?_⟩
                   conv=>whnf
                   refine ⟨j+1,[(60,some 60),(69,some 69),(65,some 65),(58,some 58),(70,some 70)],[],?_,by omega,by omega⟩
                   rw [hqs,hP]
                   ((conv=>whnf);repeat (first | exact ⟨⟩ | (refine ⟨by first | rfl | (simp;done) | (simp;omega),?_⟩;conv=>whnf)))
              ·have hje:j=rl.length:=by simp at hb;omega
               subst hje
               clear hb hqs
               rw [List.take_length] at hqe
               have hpass:uJ str (k:Nat) rl round rk=q:=hqe
               obtain ⟨f,rfl⟩:∃ f,fuel=f+1:=⟨fuel-1,by omega⟩
               have hrr':∀ b,q.2=b→(match b with | true=>iC str (k:Nat) rl f (round+1) q.1 | false=>q.1)=fin:=fun b e=>by
                rw [← hrr]
                show _=match (uJ str (k:Nat) rl round rk).2 with | true=>iC str (k:Nat) rl f (round+1) (uJ str (k:Nat) rl round rk).1 | false=>(uJ str (k:Nat) rl round rk).1
                rw [hpass,e]
               have hqn:=(Dj (str:=str) (s:=(k:Nat)) (round:=round) (by omega) (l:=rl) (q:=(rk,false)) fun r hr'=>by
                have:=hin.head r (hrm r hr')
                dsimp only;omega).2
               rw [hqe] at hqn
               refine WP.back 58 70 ?_
               conv=>whnf
               refine ⟨by rw [wM];omega,?_⟩
               conv=>whnf
               rw [RX (hgetk hlk)]
               repeat (refine gw rfl ?_;conv=>whnf)
               refine ⟨by omega,?_⟩
               conv=>whnf
               refine ⟨(round+1,q.1,q.2,f),[(60,some 60),(58,some 58)],[],?_,⟨hql,by dsimp only;omega,by dsimp only;omega,fun h=>⟨?_,hrr' _ h⟩,fun h=>hrr' _ h⟩,by dsimp only;omega⟩
               ·((conv=>whnf);repeat (first | exact ⟨⟩ | (refine ⟨by first | rfl | (simp;done) | (simp;omega),?_⟩;conv=>whnf)))
               ·rcases hqn h with h' | h'
                ·cases h'
                ·dsimp only at h' ⊢;omega
         ·have hke:k=M+1:=by simp at hb;omega
          subst hke
          clear hb
          repeat (refine gw rfl ?_;conv=>whnf)
          refine ⟨[],[60],?_,rfl⟩
          ((conv=>whnf);repeat (first | exact ⟨⟩ | (refine ⟨by first | rfl | (simp;done) | (simp;omega),?_⟩;conv=>whnf)))
          refine ⟨(je i str rules (M+1)).map enI,by rw [List.drop_zero];exact List.take_of_length_le (by rw [List.length_map];omega),by rw [List.length_map];omega,rfl,?_⟩
          ((conv=>whnf);repeat (first | exact ⟨⟩ | (refine ⟨by first | rfl | (simp;done) | (simp;omega),?_⟩;conv=>whnf)))
end Go.Proofs.YtdonenoiehdahaaGreat
namespace Go.Own
end Go.Own
namespace Go.Proofs.YtdonenoiehdahaaGreat
open Go Go.Abs Go.Own
attribute [local irreducible] WP
def dS (atoms:List Tm) (lv:Str→Nat):List Int:=atoms.map fun t=>ofL t.name ((nmS atoms).map fun n=>(n,((lv n:Nat):Int)))
theorem Tryz.XE (atoms:List Tm) (rules:List Gr):aG Tryz.prog 145 [] [.d (gD atoms rules),.aF] [] [] [.d (.bool true)] []:=by
 refine aG.of_wp hT (nt:=_) (c:=_) Tryz.func145 rfl rfl rfl rfl (by kernel_rfl) rfl rfl ?_
 intro w0 ok0 wr β0
 repeat (refine gw rfl ?_;conv=>whnf)
 refine WP.loop (α:=Unit) (fun _=>⟨[(8,.d (.int .i64 0)),(9,.d (.int .i64 0))],[],[]⟩) (fun _=>True) (fun _=>0) () [] [] ?_ ?_ ?_
 ·((conv=>whnf);repeat (first | exact ⟨⟩ | (refine ⟨by first | rfl | (simp;done) | (simp;omega),?_⟩;conv=>whnf)))
 ·trivial
 ·rintro _ _
  repeat (refine gw rfl ?_;conv=>whnf)
  refine ⟨[],[],?_,rfl⟩
  ((conv=>whnf);repeat (first | exact ⟨⟩ | (refine ⟨by first | rfl | (simp;done) | (simp;omega),?_⟩;conv=>whnf)))
theorem Tryz.evaluated (atoms:List Tm) (rules:List Gr) (lv:Str→Nat) (hok:∀ x∈atoms,okT x) (hfit:yY rules) (hv:aP atoms rules=true) (hn:atoms.length≤64) (hr:rules.length≤128) (hf:∀ r∈rules,r.2.1.length+r.2.2.length≤16)
  (hlv:dP (nmS atoms) (dX atoms rules [])=some lv) (hs:∀ s∈dS atoms lv,0≤s∧s≤1000) :
  aG Tryz.prog 128 [] [.d (gD atoms rules),.aF] [] [] [.d (.list ((dS atoms lv).map enI)),.d (.list ((jf atoms.length (dS atoms lv) rules).map enI)),.d (.int .i64 0)] []:=by
 have hin:=eP hv
 have hsP:=Tryz.OG atoms rules hok hv hn hr hf
 unfold strD at hsP
 rw [hlv] at hsP
 dsimp only at hsP
 rw [show (atoms.map fun t=>D.int .i64 (ofL t.name ((nmS atoms).map fun n=>(n,((lv n:Nat):Int)))))=(dS atoms lv).map enI from by unfold dS;rw [List.map_map];rfl] at hsP
 refine aG.of_wp hT (nt:=_) (c:=_) Tryz.func128 rfl rfl rfl rfl (by kernel_rfl) rfl rfl ?_
 intro w0 ok0 wr β0
 repeat (refine gw rfl ?_;conv=>whnf)
 refine .inl ⟨_,Tryz.AX atoms rules hok hfit,.inl rfl,?_⟩
 rw [hv]
 conv=>whnf
 refine .inr ⟨_,_,_,_,_,_,Tryz.XE atoms rules,[],[],rfl,rfl,?_⟩
 conv=>whnf
 repeat (refine gw rfl ?_;conv=>whnf)
 refine .inl ⟨_,hsP,.inl rfl,?_⟩
 conv=>whnf
 repeat (refine gw rfl ?_;conv=>whnf)
 refine .inr ⟨_,_,_,_,_,_,Tryz.Vq atoms rules (dS atoms lv) hin hn hr hf (by unfold dS;rw [List.length_map]) hs,[],[],rfl,rfl,?_⟩
 conv=>whnf
 repeat (refine gw rfl ?_;conv=>whnf)
 refine ⟨[],[],?_,rfl⟩
 ((conv=>whnf);repeat (first | exact ⟨⟩ | (refine ⟨by first | rfl | (simp;done) | (simp;omega),?_⟩;conv=>whnf)))
theorem Tryz.Xm (atoms:List Tm) (rules:List Gr) (lv:Str→Nat) (hok:∀ x∈atoms,okT x) (hfit:yY rules) (hv:aP atoms rules=true) (hn:atoms.length≤64) (hr:rules.length≤128) (hf:∀ r∈rules,r.2.1.length+r.2.2.length≤16)
  (hlv:dP (nmS atoms) (dX atoms rules [])=some lv) (hs:∀ s∈dS atoms lv,0≤s∧s≤1000) (rk:List Int) (hrk:jf atoms.length (dS atoms lv) rules=rk) (hrl:rk.length≤64) :
  aG Tryz.prog 92 [] [.d (gD atoms rules),.aF] [] [] [.d (.list ((holdL rk rk.length).map enI)),.d (.int .i64 0)] []:=by
 have c:=Tryz.evaluated atoms rules lv hok hfit hv hn hr hf hlv hs
 rw [hrk] at c
 refine aG.of_wp hT (nt:=_) (c:=_) Tryz.func92 rfl rfl rfl rfl (by kernel_rfl) rfl rfl ?_
 intro w0 ok0 wr β0
 repeat (refine gw rfl ?_;conv=>whnf)
 refine .inr ⟨_,_,_,_,_,_,c,[],[],rfl,rfl,?_⟩
 conv=>whnf
 repeat (refine gw rfl ?_;conv=>whnf)
 refine WP.loop (α:=Nat) (fun i=>⟨[(8,.d (.int .i64 0)),(9,.sl 50 1 0 (holdL rk i).length),(19,.d (.list (rk.map enI))),(20,.d (.int .i64 rk.length)),(21,.d (.int .i64 i))],[((50,0),some (.arr 1 ((holdL rk i).map enI)))],[50]⟩)
  (fun i=>i≤rk.length) (fun i=>rk.length-i) 0 [(50,none)] [] ?_ ?_ ?_
 ·rw [List.length_map]
  ((conv=>whnf);repeat (first | exact ⟨⟩ | (refine ⟨by first | rfl | (simp;done) | (simp;omega),?_⟩;conv=>whnf)))
 ·exact Nat.zero_le _
 ·intro i hi
  have hsu:=CS rk i
  have hll:=tJ rk i
  generalize hSe:holdL rk i=S at hsu hll ⊢
  repeat (refine gw rfl ?_;conv=>whnf)
  (split<;>rename_i hb<;>(try rw [hb])<;>(conv=>whnf))
  ·have hlt:i<rk.length:=by simpa using hb
   clear hb
   have hhr:∀ b,decide (rk[i]≥0)=b→NM rk i=b:=fun b e=>by subst e;unfold NM;simp [hlt]
   repeat (refine gw rfl ?_;conv=>whnf)
   refine ⟨by omega,_,ak hlt,rfl,?_⟩
   conv=>whnf
   repeat (refine gw rfl ?_;conv=>whnf)
   cases hd:decide (rk[i]≥0) with
   | false=>
     rw [hhr _ hd] at hsu
     conv=>whnf
     repeat (refine gw rfl ?_;conv=>whnf)
     refine ⟨by omega,?_⟩
     conv=>whnf
     refine ⟨i+1,[(50,some 50)],[],?_,by omega,by omega⟩
     rw [hsu,List.append_nil]
     ((conv=>whnf);repeat (first | exact ⟨⟩ | (refine ⟨by first | rfl | (simp;done) | (simp;omega),?_⟩;conv=>whnf)))
   | true=>
     rw [hhr _ hd] at hsu
     conv=>whnf
     repeat (refine gw rfl ?_;conv=>whnf)
     (refine ⟨rfl,?_⟩;(conv=>whnf);refine ⟨_,(congrArg (List.take _) List.drop_zero).trans (List.take_of_length_le (by first | (simp;done) | (simp;omega))),by first | (simp;done) | (simp;omega),?_⟩;(conv=>whnf);refine ⟨_,rfl,Nat.le_refl _,?_⟩;(conv=>whnf);refine ⟨by show (_+1)*8≤_;first | (simp;done) | (simp;omega),?_⟩;(conv=>whnf))
     repeat (refine gw rfl ?_;conv=>whnf)
     refine ⟨by omega,?_⟩
     conv=>whnf
     refine ⟨i+1,[(50,some 31)],[],?_,by omega,by omega⟩
     rw [hsu,List.map_append,List.map_singleton,List.length_append,List.length_singleton]
     ((conv=>whnf);repeat (first | exact ⟨⟩ | (refine ⟨by first | rfl | (simp;done) | (simp;omega),?_⟩;conv=>whnf)))
  ·have hie:i=rk.length:=by simp at hb;omega
   subst hie
   clear hb hsu
   rw [hSe]
   repeat (refine gw rfl ?_;conv=>whnf)
   refine ⟨[],[50],?_,rfl⟩
   ((conv=>whnf);repeat (first | exact ⟨⟩ | (refine ⟨by first | rfl | (simp;done) | (simp;omega),?_⟩;conv=>whnf)))
   refine ⟨S.map enI,by rw [List.drop_zero];exact List.take_of_length_le (by simp),by simp,rfl,?_⟩
   ((conv=>whnf);repeat (first | exact ⟨⟩ | (refine ⟨by first | rfl | (simp;done) | (simp;omega),?_⟩;conv=>whnf)))
end Go.Proofs.YtdonenoiehdahaaGreat
namespace Go.Own
theorem uh (a b:Int):aS b a=- aS a b:=by
 unfold aS
 by_cases h1:a<b
 ·rw [if_pos h1,if_neg (by omega),if_pos h1];rfl
 ·by_cases h2:b<a
  ·rw [if_pos h2,if_neg h1,if_pos h2]<;>rfl
  ·rw [if_neg h2,if_neg h1,if_neg h1,if_neg h2];rfl
def Tr (p q r:Int):Prop:=p≤0→q≤0→r≤0∧(r=0→p=0∧q=0)
def lex (p q:Int):Int:=if p≠0 then p else q
theorem wY {p q p' q':Int} (h:p'=-p) (k:q'=-q):lex p' q'=- lex p q:=by
 unfold lex
 by_cases e:p=0
 ·rw [if_neg (by omega),if_neg (by omega),k]
 ·rw [if_pos (by omega),if_pos e,h]
theorem Ik {p q r p' q' r':Int} (h:Tr p q r) (k:p=0→q=0→r=0→Tr p' q' r'):Tr (lex p p') (lex q q') (lex r r'):=by
 intro h1 h2
 have hp:p≤0:=by unfold lex at h1;split at h1<;>omega
 have hq:q≤0:=by unfold lex at h2;split at h2<;>omega
 obtain ⟨h3,h4⟩:=h hp hq
 by_cases e:r=0
 ·obtain ⟨ep,eq⟩:=h4 e
  have:=k ep eq e
  unfold lex at *
  rw [if_neg (by omega)] at h1 h2
  rw [if_neg (by omega),if_neg (by omega),if_neg (by omega)]
  exact this h1 h2
 ·unfold lex
  rw [if_pos e]
  exact ⟨h3,fun h=>absurd h e⟩
theorem IZ (a b c:Int):Tr (aS a b) (aS b c) (aS a c):=by
 intro h1 h2
 unfold aS at *
 split at h1<;>split at h2<;>(try split at h1)<;>(try split at h2)<;>split<;>(try split)<;>(first | omega | (constructor<;>omega))
theorem GV:∀ a b:Str,dV b a=- dV a b
 | [],[]=>rfl
 | [],_::_=>rfl
 | _::_,[]=>rfl
 | a::l,b::m=>by
   unfold dV
   have ih:=GV l m
   by_cases h1:a<b
   ·have:¬ b<a:=fun h=>absurd (UInt8.lt_trans h h1) (UInt8.lt_irrefl _)
    rw [if_pos h1,if_neg this,if_pos h1];rfl
   ·by_cases h2:b<a
    ·rw [if_pos h2,if_neg h1,if_pos h2]<;>rfl
    ·rw [if_neg h2,if_neg h1,if_neg h1,if_neg h2];exact ih
theorem PW:∀ a b c:Str,Tr (dV a b) (dV b c) (dV a c)
 | [],b,[]=>by cases b<;>simp [dV,Tr]
 | [],b,_::_=>by cases b<;>simp [dV,Tr]
 | _::_,[],c=>by simp [dV,Tr]
 | _::_,_::_,[]=>by intro h1 h2;simp [dV] at h2
 | a::l,b::m,c::k=>by
   have ih:=PW l m k
   intro h1 h2
   simp only [dV] at h1 h2 ⊢
   by_cases x1:a<b
   ·by_cases x2:b<c
    ·rw [if_pos (UInt8.lt_trans x1 x2)];exact ⟨by decide,fun h=>by cases h⟩
    ·by_cases x3:c<b
     ·rw [if_neg x2,if_pos x3] at h2;omega
     ·have:b=c:=UInt8.le_antisymm (UInt8.not_lt.1 x3) (UInt8.not_lt.1 x2)
      subst this
      rw [if_pos x1];exact ⟨by decide,fun h=>by cases h⟩
   ·by_cases x4:b<a
    ·rw [if_neg x1,if_pos x4] at h1;omega
    ·have:a=b:=UInt8.le_antisymm (UInt8.not_lt.1 x4) (UInt8.not_lt.1 x1)
     subst this
     rw [if_neg x1,if_neg x1] at h1
     by_cases x2:a<c
     ·rw [if_pos x2];exact ⟨by decide,fun h=>by cases h⟩
     ·by_cases x3:c<a
      ·rw [if_neg x2,if_pos x3] at h2;omega
      ·rw [if_neg x2,if_neg x3] at h2
       simp only [if_neg x1,if_neg x2,if_neg x3]
       exact ih h1 h2
def Og (a b:Tm):Int:=if aJ a=0 then aS (dF a.name) (dF b.name) else lex (aS a.args.length b.args.length) (lex (dV a.name b.name) (bF a.args b.args))
theorem VO (n m:Nat) (x:Int):(if n≠m then aS n m else x)=lex (aS n m) x:=by
 unfold lex
 by_cases h:n=m
 ·rw [if_neg (fun k=>k h),if_neg (fun k=>k (eX.2 (by omega)))]
 ·rw [if_pos h,if_pos (fun k=>h (by have:=eX.1 k;omega))]
theorem jV (a b:Tm):aO a b=lex (aS (aJ a) (aJ b)) (Og a b):=by
 rw [AL]
 unfold Og
 rw [← VO]
 rfl
theorem fG (a b:Tm) (l m:List Tm):bF (a::l) (b::m)=lex (aO a b) (bF l m):=by rw [bF];rfl
theorem D5:∀ {l m:List Tm},(∀ x∈l,∀ y,aO y x=- aO x y)→bF m l=- bF l m
 | [],[],_=>by simp [bF]
 | [],_::_,_=>by simp [bF]
 | _::_,[],_=>by simp [bF]
 | a::l,b::m,h=>by
   rw [fG,fG]
   exact wY (h a (by simp) b) (D5 fun x hx=>h x (by simp [hx]))
theorem lG:∀ a b:Tm,aO b a=- aO a b:=Tm.ind fun a ih b=>by
 rw [jV,jV]
 by_cases hc:aJ a=aJ b
 ·refine wY (uh _ _) ?_
  unfold Og
  by_cases h0:aJ a=0
  ·rw [if_pos h0,if_pos (by omega)];exact uh _ _
  ·rw [if_neg h0,if_neg (by omega)]
   exact wY (uh _ _) (wY (GV _ _) (D5 ih))
 ·have:=uh (aJ a) (aJ b)
  have h1:aS (aJ a) (aJ b)≠0:=fun h=>hc (eX.1 h)
  unfold lex
  rw [if_pos h1,if_pos (by omega),this]
theorem Ls:∀ {l m k:List Tm},(∀ x∈l,∀ y z,Tr (aO x y) (aO y z) (aO x z))→Tr (bF l m) (bF m k) (bF l k)
 | [],m,[],_=>by cases m<;>simp [bF,Tr]
 | [],m,_::_,_=>by cases m<;>simp [bF,Tr]
 | _::_,[],k,_=>by intro h;simp [bF] at h
 | _::_,_::_,[],_=>by intro _ h;simp [bF] at h
 | a::l,b::m,c::k,h=>by
   rw [fG,fG,fG]
   exact Ik (h a (by simp) b c) fun _ _ _=>Ls fun x hx=>h x (by simp [hx])
theorem IY:∀ a b c:Tm,Tr (aO a b) (aO b c) (aO a c):=Tm.ind fun a ih b c=>by
 rw [jV,jV,jV]
 refine Ik (IZ _ _ _) fun h1 h2 _=>?_
 have e1:=eX.1 h1
 have e2:=eX.1 h2
 unfold Og
 by_cases h0:aJ a=0
 ·rw [if_pos h0,if_pos h0,if_pos (by omega)];exact IZ _ _ _
 ·rw [if_neg h0,if_neg h0,if_neg (by omega)]
  exact Ik (IZ _ _ _) fun _ _ _=>Ik (PW _ _ _) fun _ _ _=>Ls ih
theorem Ri (a:Tm):aO a a=0:=by have:=lG a a;omega
theorem Wu {a b c:Tm} (h:aO a b<0) (k:aO b c<0):aO a c<0:=by
 obtain ⟨h1,h2⟩:=IY a b c (by omega) (by omega)
 rcases Int.lt_or_eq_of_le h1 with h3 | h3
 ·exact h3
 ·have:=(h2 h3).1;omega
theorem Lu {a b r:Tm} (h:aO a r=0) (k:aO b r=0):aO a b=0:=by
 have h1:=lG b r
 have h2:=(IY a r b (by omega) (by omega)).1
 have h3:=lG a r
 have h4:=(IY b r a (by omega) (by omega)).1
 have h5:=lG a b
 omega
theorem XV {l:List Tm} (h:∀ i (hi:i+1<l.length),aO l[i] l[i+1]<0):l.Pairwise fun a b=>aO a b<0:=by
 rw [List.pairwise_iff_getElem]
 intro i j hi hj hij
 induction j with
 | zero=>omega
 | succ j ih=>
   by_cases e:i=j
   ·subst e;exact h i hj
   ·exact Wu (ih (by omega) (by omega)) (h j hj)
theorem GX {atoms:List Tm} {rules:List Gr} (h:aP atoms rules=true):atoms.Pairwise fun a b=>aO a b<0:=by
 unfold aP iK at h
 simp only [Bool.and_eq_true] at h
 refine XV fun i hi=>?_
 have h1:=(jg.1 h.1.1.2) (i+1) hi
 rw [jC hi,gX hi] at h1
 simp only [Bool.and_eq_true] at h1
 exact of_decide_eq_true h1.2
theorem Ec {atoms:List Tm} {rules:List Gr} (h:aP atoms rules=true):∀ t∈atoms,fO false 4 t=true∧nameB t.name=true:=fun t ht=>by
 unfold aP iK at h
 simp only [Bool.and_eq_true] at h
 obtain ⟨i,hi,rfl⟩:=List.mem_iff_getElem.1 ht
 have h1:=(jg.1 h.1.1.2) i hi
 rw [jC hi] at h1
 unfold nG at h1
 simp only [Bool.and_eq_true] at h1
 exact ⟨h1.1.1.1,h1.1.1.2⟩
mutual
def eqT:Tm→Tm→Bool
 | .mk n l,.mk m k=>n==m&&wC l k
def wC:List Tm→List Tm→Bool
 | [],[]=>true
 | a::l,b::m=>eqT a b&&wC l m
 | _,_=>false
end
theorem Us (a b:Tm):eqT a b=(a.name==b.name&&wC a.args b.args):=by
 obtain ⟨n,l⟩:=a
 obtain ⟨m,k⟩:=b
 rw [eqT];rfl
theorem IU:∀ {l m:List Tm},(∀ x∈l,∀ y,eqT x y=true↔x=y)→(wC l m=true↔l=m)
 | [],[],_=>by simp [wC]
 | [],_::_,_=>by simp [wC]
 | _::_,[],_=>by simp [wC]
 | a::l,b::m,h=>by
   rw [wC,Bool.and_eq_true,h a (by simp),IU fun x hx=>h x (by simp [hx]),List.cons.injEq]
theorem qg:∀ a b:Tm,eqT a b=true↔a=b:=Tm.ind fun a ih b=>by
 rw [Us,Bool.and_eq_true,IU ih]
 obtain ⟨n,l⟩:=a
 obtain ⟨m,k⟩:=b
 simp [Tm.name,Tm.args]
theorem xQ {l m:List Tm}:wC l m=true↔l=m:=IU fun x _=>qg x
theorem Ur:∀ {l m:List Tm},l.length≠m.length→wC l m=false:=fun {l m} h=>by
 cases he:wC l m with
 | false=>rfl
 | true=>rw [xQ.1 he] at h;exact absurd rfl h
theorem XO {l m:List Tm} {i:Nat} (hi:i<l.length) (hj:i<m.length) (h:eqT l[i] m[i]=false):wC l m=false:=by
 cases he:wC l m with
 | false=>rfl
 | true=>
   have:=xQ.1 he
   subst this
   rw [(qg _ _).2 rfl] at h;cases h
theorem XM {l m:List Tm} (hl:l.length=m.length) (h:∀ i (hi:i<l.length) (hj:i<m.length),eqT l[i] m[i]=true):wC l m=true:=
 xQ.2 (List.ext_getElem hl fun i h1 h2=>(qg _ _).1 (h i h1 h2))
end Go.Own
namespace Go.Proofs.YtdonenoiehdahaaGreat
open Go Go.Abs Go.Own
attribute [local irreducible] WP
def EqR (x:Tm):Prop:=∀ y:Tm,okT x→okT y→Pure Tryz.prog 20 [tD x.name x.args,tD y.name y.args] [.bool (eqT x y)]
theorem Tryz.OC (l m:List Tm) (hl:l.length≤9223372036854775807) (ok1:∀ x∈l,okT x) (ok2:∀ x∈m,okT x) (h:∀ x∈l,EqR x):Pure Tryz.prog 49 [.list (l.map enT),.list (m.map enT)] [.bool (wC l m)]:=by
 refine Pure.of_wp hT (nt:=_) (c:=_) Tryz.func49 rfl rfl rfl rfl (by kernel_rfl) ?_
 intro w0 ok0 β0
 repeat (refine gw rfl ?_;conv=>whnf)
 rw [List.length_map,List.length_map]
 by_cases he:l.length=m.length
 ·rw [show (((l.length:Nat):Int) != ((m.length:Nat):Int))=false by rw [he];simp]
  conv=>whnf
  repeat (refine gw rfl ?_;conv=>whnf)
  refine WP.loop (α:=Nat) (fun i=>⟨[(0,.d (.list (l.map enT))),(1,.d (.list (m.map enT))),(12,.d (.int .i64 l.length)),(13,.d (.int .i64 i))],[],[]⟩) (fun i=>i≤l.length∧∀ j (hj:j<i) (h1:j<l.length) (h2:j<m.length),eqT l[j] m[j]=true) (fun i=>l.length-i) 0 [] [] ?_ ?_ ?_
  ·rw [List.length_map]
   ((conv=>whnf);repeat (first | exact ⟨⟩ | (refine ⟨by first | rfl | (simp;done) | (simp;omega),?_⟩;conv=>whnf)))
  ·exact ⟨Nat.zero_le _,fun j hj=>by omega⟩
  ·rintro i ⟨hi,ht⟩
   repeat (refine gw rfl ?_;conv=>whnf)
   (split<;>rename_i hb<;>(try rw [hb])<;>(conv=>whnf))
   ·have hlt:i<l.length:=by simpa using hb
    have hlm:i<m.length:=by omega
    clear hb
    repeat (refine gw rfl ?_;conv=>whnf)
    refine ⟨by omega,_,dA hlt,rfl,?_⟩
    conv=>whnf
    refine ⟨by omega,_,dA hlm,rfl,?_⟩
    conv=>whnf
    refine .inl ⟨_,h _ (List.getElem_mem hlt) m[i] (ok1 _ (List.getElem_mem hlt)) (ok2 _ (List.getElem_mem hlm)),.inl rfl,?_⟩
    conv=>whnf
    cases hq:eqT l[i] m[i] with
    | false=>
      repeat (refine gw rfl ?_;conv=>whnf)
      rw [XO hlt hlm hq]
    | true=>
      repeat (refine gw rfl ?_;conv=>whnf)
      refine ⟨by omega,?_⟩
      conv=>whnf
      refine ⟨i+1,[],[],?_,⟨by omega,fun j hj h1 h2=>?_⟩,by omega⟩
      ·((conv=>whnf);repeat (first | exact ⟨⟩ | (refine ⟨by first | rfl | (simp;done) | (simp;omega),?_⟩;conv=>whnf)))
      ·rcases Nat.lt_or_ge j i with hji | hji
       ·exact ht j hji h1 h2
       ·obtain rfl:j=i:=by omega
        exact hq
   ·have:i=l.length:=by simp at hb;omega
    subst this
    rw [XM he fun j h1 h2=>ht j h1 h1 h2]
    repeat (refine gw rfl ?_;conv=>whnf)
 ·rw [show (((l.length:Nat):Int) != ((m.length:Nat):Int))=true by simp;omega,Ur he]
  conv=>whnf
  repeat (refine gw rfl ?_;conv=>whnf)
theorem Tryz.Ho:∀ x:Tm,EqR x:=Tm.ind fun x ih y okx oky=>by
 have hl:=Tryz.OC x.args y.args (aU.1 okx).1 (aU.1 okx).2 (aU.1 oky).2 ih
 rw [Us]
 clear ih okx oky
 generalize x.name=n at *
 generalize x.args=l at *
 generalize y.name=m at *
 generalize y.args=k at *
 refine Pure.of_wp hT (nt:=_) (c:=_) Tryz.func20 rfl rfl rfl rfl (by kernel_rfl) ?_
 intro w0 ok0 β0
 repeat (refine gw rfl ?_;conv=>whnf)
 cases n==m with
 | false=>
   conv=>whnf
   repeat (refine gw rfl ?_;conv=>whnf)
   rfl
 | true=>
   conv=>whnf
   repeat (refine gw rfl ?_;conv=>whnf)
   refine .inl ⟨_,hl,.inl rfl,?_⟩
   conv=>whnf
   repeat (refine gw rfl ?_;conv=>whnf)
   rfl
theorem Tryz.Fa (l:List Tm) (hl:l.length≤9223372036854775807) (ok:∀ x∈l,okT x):Pure Tryz.prog 49 [.list (l.map enT),.list (l.map enT)] [.bool true]:=by
 have:=Tryz.OC l l hl ok ok fun x _=>Tryz.Ho x
 rwa [xQ.2 rfl] at this
theorem TU {l:List In} {i:Nat} (h:i<l.length):(l.map eu)[((i:Int)).toNat]?=some (.agg [.int .i64 (l[i].1:Nat),.str l[i].2.name,.list (l[i].2.args.map enT)]):=ak h
theorem FZ {l:List Ot} {i:Nat} (h:i<l.length):(l.map aK)[((i:Int)).toNat]?=some (.agg [.int .i64 (l[i].1:Nat),.int .i64 l[i].2.1,.str l[i].2.2.1.name,.list (l[i].2.2.1.args.map enT),.int .i64 l[i].2.2.2]):=ak h
theorem xY (a:Int):(a != a)=false:=by simp
theorem Tryz.ND (l:List In) (hl:l.length≤1000000) (hok:∀ x∈l,okT x.2):Pure Tryz.prog 50 [.list (l.map eu),.list (l.map eu)] [.bool true]:=by
 refine Pure.of_wp hT (nt:=_) (c:=_) Tryz.func50 rfl rfl rfl rfl (by kernel_rfl) ?_
 intro w0 ok0 β0
 repeat (refine gw rfl ?_;conv=>whnf)
 rw [xY]
 conv=>whnf
 repeat (refine gw rfl ?_;conv=>whnf)
 refine WP.loop (α:=Nat) (fun i=>⟨[(0,.d (.list (l.map eu))),(1,.d (.list (l.map eu))),(5,.d (.int .i64 i))],[],[]⟩) (fun i=>i≤l.length) (fun i=>l.length-i) 0 [] [] ?_ ?_ ?_
 ·((conv=>whnf);repeat (first | exact ⟨⟩ | (refine ⟨by first | rfl | (simp;done) | (simp;omega),?_⟩;conv=>whnf)))
 ·exact Nat.zero_le _
 ·intro i hi
  repeat (refine gw rfl ?_;conv=>whnf)
  rw [List.length_map]
  (split<;>rename_i hb<;>(try rw [hb])<;>(conv=>whnf))
  ·have hlt:i<l.length:=by simpa using hb
   clear hb
   have ho:=hok _ (List.getElem_mem hlt)
   have hq:=Tryz.Ho l[i].2 l[i].2 ho ho
   rw [(qg _ _).2 rfl] at hq
   have hgt:=TU hlt
   generalize l[i]=x at hgt hq
   repeat (refine gw rfl ?_;conv=>whnf)
   refine ⟨by omega,_,hgt,rfl,?_⟩
   conv=>whnf
   refine ⟨by omega,_,hgt,rfl,?_⟩
   conv=>whnf
   rw [xY]
   conv=>whnf
   refine ⟨by omega,_,hgt,rfl,?_⟩
   conv=>whnf
   refine ⟨by omega,_,hgt,rfl,?_⟩
   conv=>whnf
   refine .inl ⟨_,hq,.inl rfl,?_⟩
   conv=>whnf
   repeat (refine gw rfl ?_;conv=>whnf)
   refine ⟨by omega,?_⟩
   conv=>whnf
   refine ⟨i+1,[],[],?_,by omega,by omega⟩
   ((conv=>whnf);repeat (first | exact ⟨⟩ | (refine ⟨by first | rfl | (simp;done) | (simp;omega),?_⟩;conv=>whnf)))
  ·clear hb
   repeat (refine gw rfl ?_;conv=>whnf)
theorem Tryz.zH (l:List Ot) (hl:l.length≤1000000) (hok:∀ x∈l,okT x.2.2.1):Pure Tryz.prog 51 [.list (l.map aK),.list (l.map aK)] [.bool true]:=by
 refine Pure.of_wp hT (nt:=_) (c:=_) Tryz.func51 rfl rfl rfl rfl (by kernel_rfl) ?_
 intro w0 ok0 β0
 repeat (refine gw rfl ?_;conv=>whnf)
 rw [xY]
 conv=>whnf
 repeat (refine gw rfl ?_;conv=>whnf)
 refine WP.loop (α:=Nat) (fun i=>⟨[(0,.d (.list (l.map aK))),(1,.d (.list (l.map aK))),(5,.d (.int .i64 i))],[],[]⟩) (fun i=>i≤l.length) (fun i=>l.length-i) 0 [] [] ?_ ?_ ?_
 ·((conv=>whnf);repeat (first | exact ⟨⟩ | (refine ⟨by first | rfl | (simp;done) | (simp;omega),?_⟩;conv=>whnf)))
 ·exact Nat.zero_le _
 ·intro i hi
  repeat (refine gw rfl ?_;conv=>whnf)
  rw [List.length_map]
  (split<;>rename_i hb<;>(try rw [hb])<;>(conv=>whnf))
  ·have hlt:i<l.length:=by simpa using hb
   clear hb
   have ho:=hok _ (List.getElem_mem hlt)
   have hq:=Tryz.Ho l[i].2.2.1 l[i].2.2.1 ho ho
   rw [(qg _ _).2 rfl] at hq
   have hgt:=FZ hlt
   generalize l[i]=x at hgt hq
   repeat (refine gw rfl ?_;conv=>whnf)
   iterate 3
    refine ⟨by omega,_,hgt,rfl,?_⟩
    conv=>whnf
    refine ⟨by omega,_,hgt,rfl,?_⟩
    conv=>whnf
    rw [xY]
    conv=>whnf
   refine ⟨by omega,_,hgt,rfl,?_⟩
   conv=>whnf
   refine ⟨by omega,_,hgt,rfl,?_⟩
   conv=>whnf
   refine .inl ⟨_,hq,.inl rfl,?_⟩
   conv=>whnf
   repeat (refine gw rfl ?_;conv=>whnf)
   refine ⟨by omega,?_⟩
   conv=>whnf
   refine ⟨i+1,[],[],?_,by omega,by omega⟩
   ((conv=>whnf);repeat (first | exact ⟨⟩ | (refine ⟨by first | rfl | (simp;done) | (simp;omega),?_⟩;conv=>whnf)))
  ·clear hb
   repeat (refine gw rfl ?_;conv=>whnf)
def PY (roles bases:List Tm) (ins:List In) (ini:List Int) (goals sees:List Ot) (hid:Bool):D:=fQ [] roles bases ins ini [] [] (goals.map aK) (sees.map aK) 0 hid
set_option maxRecDepth 10000 in
theorem Tryz.O4 (roles bases:List Tm) (ins:List In) (ini:List Int) (goals sees:List Ot) (hid:Bool) (h1:roles.length≤1000000) (h2:bases.length≤1000000) (h3:ins.length≤1000000) (h4:ini.length≤1000000) (h5:goals.length≤1000000) (h6:sees.length≤1000000)
  (o1:∀ x∈roles,okT x) (o2:∀ x∈bases,okT x) (o3:∀ x∈ins,okT x.2) (o4:∀ x∈goals,okT x.2.2.1) (o5:∀ x∈sees,okT x.2.2.1) :
  Pure Tryz.prog 15 [PY roles bases ins ini goals sees hid,PY roles bases ins ini goals sees hid] [.bool true]:=by
 refine Pure.of_wp hT (nt:=_) (c:=_) Tryz.func15 rfl rfl rfl rfl (by kernel_rfl) ?_
 intro w0 ok0 β0
 have i1:=Tryz.ints ini ini h4 h4
 have i2:=Tryz.ints [] [] (Nat.zero_le _) (Nat.zero_le _)
 rw [beq_self_eq_true] at i1 i2
 have c1:=Tryz.Fa roles (by omega) o1
 have c2:=Tryz.Fa bases (by omega) o2
 have c3:=Tryz.ND ins h3 o3
 have c4:=Tryz.zH goals h5 o4
 have c5:=Tryz.zH sees h6 o5
 repeat (refine gw rfl ?_;conv=>whnf)
 rw [show (!hid==hid)=false by simp]
 conv=>whnf
 refine .inl ⟨_,c1,.inl rfl,?_⟩
 conv=>whnf
 refine .inl ⟨_,c2,.inl rfl,?_⟩
 conv=>whnf
 refine .inl ⟨_,c3,.inl rfl,?_⟩
 conv=>whnf
 repeat (refine gw rfl ?_;conv=>whnf)
 refine WP.loop (α:=Unit) (fun _=>⟨[(2,.d (.ref (PY roles bases ins ini goals sees hid).cells 0)),(3,.d (.ref (PY roles bases ins ini goals sees hid).cells 0)),(5,.d (.int .i64 0))],[],[]⟩) (fun _=>True) (fun _=>0) () [] [] ?_ ?_ ?_
 ·((conv=>whnf);repeat (first | exact ⟨⟩ | (refine ⟨by first | rfl | (simp;done) | (simp;omega),?_⟩;conv=>whnf)))
 ·trivial
 ·rintro _ _
  repeat (refine gw rfl ?_;conv=>whnf)
  refine .inl ⟨_,i1,.inl rfl,?_⟩
  conv=>whnf
  refine .inl ⟨_,i2,.inl rfl,?_⟩
  conv=>whnf
  refine .inl ⟨_,i2,.inl rfl,?_⟩
  conv=>whnf
  refine .inl ⟨_,c4,.inl rfl,?_⟩
  conv=>whnf
  refine .inl ⟨_,c5,.inl rfl,?_⟩
  conv=>whnf
  repeat (refine gw rfl ?_;conv=>whnf)
end Go.Proofs.YtdonenoiehdahaaGreat
namespace Go.Own
def dgN (a:UInt8):Prop:=48≤(a.toNat:Int)∧(a.toNat:Int)≤57
inductive Shp:Str→Int→Prop
 | one (a:UInt8) (ha:dgN a):Shp [a] ((a.toNat:Int)-48)
 | two (a b:UInt8) (ha:dgN a) (hb:dgN b) (h0:(a.toNat:Int)≠48):Shp [a,b] (10*((a.toNat:Int)-48)+((b.toNat:Int)-48))
 | three (a b c:UInt8) (ha:dgN a) (hb:dgN b) (hc:dgN c) (h0:(a.toNat:Int)≠48):Shp [a,b,c] (10*(10*((a.toNat:Int)-48)+((b.toNat:Int)-48))+((c.toNat:Int)-48))
 | four (a b c d:UInt8) (ha:dgN a) (hb:dgN b) (hc:dgN c) (hd:dgN d) (h0:(a.toNat:Int)≠48):Shp [a,b,c,d] (10*(10*(10*((a.toNat:Int)-48)+((b.toNat:Int)-48))+((c.toNat:Int)-48))+((d.toNat:Int)-48))
theorem RV {s:Str} (h:bf s=true):Shp s (dF s):=by
 have hv:dF s=numAt 0 s:=by unfold dF;rw [if_pos h]
 rw [hv]
 unfold bf at h
 simp only [Bool.and_eq_true,decide_eq_true_eq] at h
 obtain ⟨⟨⟨h1,h2⟩,h3⟩,h4⟩:=h
 match s,h1,h2,h3,h4 with
 | [],h1,_,_,_=>simp at h1
 | [a],_,_,_,h4=>
   simp only [List.all_cons,List.all_nil,Bool.and_true,jU] at h4
   have:=Shp.one a h4
   simpa [numAt] using this
 | [a,b],_,_,h3,h4=>
   simp only [List.all_cons,List.all_nil,Bool.and_true,Bool.and_eq_true,jU] at h4
   have h0:(a.toNat:Int)≠48:=by simpa [headB] using h3
   have:=Shp.two a b h4.1 h4.2 h0
   simpa [numAt] using this
 | [a,b,c],_,_,h3,h4=>
   simp only [List.all_cons,List.all_nil,Bool.and_true,Bool.and_eq_true,jU] at h4
   have h0:(a.toNat:Int)≠48:=by simpa [headB] using h3
   have:=Shp.three a b c h4.1 h4.2.1 h4.2.2 h0
   simpa [numAt] using this
 | [a,b,c,d],_,_,h3,h4=>
   simp only [List.all_cons,List.all_nil,Bool.and_true,Bool.and_eq_true,jU] at h4
   have h0:(a.toNat:Int)≠48:=by simpa [headB] using h3
   have:=Shp.four a b c d h4.1 h4.2.1 h4.2.2.1 h4.2.2.2 h0
   simpa [numAt] using this
 | _::_::_::_::_::_,_,h2,_,_=>simp at h2
theorem Xd {a b:UInt8} (h:(a.toNat:Int)=b.toNat):a=b:=UInt8.toNat_inj.1 (by omega)
theorem Vg {s t:Str} {n m:Int} (h:Shp s n) (k:Shp t m) (e:n=m):s=t:=by
 cases h<;>cases k<;>(unfold dgN at *)<;>first
  | (exfalso;omega)
  | (simp only [List.cons.injEq,and_true];(repeat' apply And.intro)<;>exact Xd (by omega))
theorem Tf {s t:Str} (hs:bf s=true) (ht:bf t=true) (h:dF s=dF t):s=t:=Vg (RV hs) (RV ht) h
def Grd (t:Tm):Prop:=∃ k,fO false k t=true
theorem Grd.arg {t x:Tm} (h:Grd t) (hx:x∈t.args):Grd x:=by
 obtain ⟨k,h⟩:=h
 cases k with
 | zero=>cases t;simp [fO] at h
 | succ k=>
   rw [sQ] at h
   split at h
   ·split at h
    ·rename_i h0;rw [List.length_eq_zero_iff.1 h0] at hx;cases hx
    ·simp only [Bool.and_eq_true,List.all_eq_true] at h
     exact ⟨k,h.1 x hx⟩
   ·cases h
theorem DY:∀ {l m:List Tm},(∀ x∈l,∀ y∈m,aO x y=0→x=y)→bF l m=0→l=m
 | [],[],_,_=>rfl
 | [],_::_,_,h=>by simp [bF] at h
 | _::_,[],_,h=>by simp [bF] at h
 | a::l,b::m,h,e=>by
   rw [fG] at e
   unfold lex at e
   by_cases h0:aO a b=0
   ·rw [if_neg (fun k=>k h0)] at e
    rw [h a (by simp) b (by simp) h0,DY (fun x hx y hy=>h x (by simp [hx]) y (by simp [hy])) e]
   ·rw [if_pos h0] at e;exact absurd e h0
theorem Tm.ext {t u:Tm} (h:t.name=u.name) (k:t.args=u.args):t=u:=by
 obtain ⟨n,l⟩:=t
 obtain ⟨m,j⟩:=u
 simp only [Tm.name,Tm.args] at h k
 rw [h,k]
theorem CG {p q:Int} (h:lex p q=0):p=0∧q=0:=by
 unfold lex at h;split at h<;>omega
theorem Rj:∀ t u:Tm,Grd t→Grd u→aO t u=0→t=u:=Tm.ind fun t ih u ht hu h=>by
 rw [jV] at h
 obtain ⟨h1,h2⟩:=CG h
 have hc:=eX.1 h1
 unfold Og at h2
 by_cases h0:aJ t=0
 ·rw [if_pos h0] at h2
  have e:=eX.1 h2
  have n0:∀ v:Tm,aJ v=0→v.args.length=0∧bf v.name=true:=fun v hv=>by
   unfold aJ at hv
   split at hv
   ·rename_i hl
    split at hv
    ·rename_i hk;exact ⟨hl,hk⟩
    ·split at hv<;>cases hv
   ·cases hv
  obtain ⟨l1,k1⟩:=n0 t h0
  obtain ⟨l2,k2⟩:=n0 u (by omega)
  exact Tm.ext (Tf k1 k2 e) (by rw [List.length_eq_zero_iff.1 l1,List.length_eq_zero_iff.1 l2])
 ·rw [if_neg h0] at h2
  obtain ⟨h3,h4⟩:=CG h2
  obtain ⟨h5,h6⟩:=CG h4
  exact Tm.ext (Go.Proofs.YtdonenoiehdahaaGreat.nD.1 h5) (DY (fun x hx y hy=>ih x hx y (ht.arg hx) (hu.arg hy)) h6)
def Ae (u:Tm):Int→List Tm→Int
 | _,[]=>-1
 | i,t::l=>if eqT t u=true then i else Ae u (i+1) l
end Go.Own
namespace Go.Proofs.YtdonenoiehdahaaGreat
open Go.Own
theorem OW {u:Tm} (hu:Grd u):∀ {l:List Tm} {i:Int},(∀ t∈l,Grd t)→Ae u i l=iP u i l
 | [],i,_=>rfl
 | t::l,i,h=>by
   unfold Ae iP
   have ht:=h t (by simp)
   by_cases e:aO t u=0
   ·rw [if_pos e,if_pos ((qg _ _).2 (Rj t u ht hu e))]
   ·rw [if_neg e,if_neg (fun k=>e (by rw [(qg _ _).1 k];exact Ri u)),OW hu fun t ht=>h t (by simp [ht])]
end Go.Proofs.YtdonenoiehdahaaGreat
