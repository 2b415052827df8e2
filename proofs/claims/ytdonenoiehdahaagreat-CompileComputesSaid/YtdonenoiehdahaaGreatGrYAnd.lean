/- Walks: model.Strata; its error and its levels are the reference's. -/
import Derived.Test.YtdonenoiehdahaaGreatKeysEAnd
import Derived.Test.YtdonenoiehdahaaGreatLsLAnd
import Derived.Test.YtdonenoiehdahaaGreatLtJAnd
import Derived.Test.YtdonenoiehdahaaGreatGrOAnd
set_option linter.all false
namespace Go.Own
theorem Di {bad:Bool→Nat→Bool} {f:Str→Nat}:∀ {E:List Eg} {lv lv':Str→Nat} {m m':Bool},dW bad E lv m=some (lv',m')→iZ E f→(∀ x,lv x≤f x)→∀ x,lv' x≤f x
 | [],lv,lv',m,m',h,_,hl=>by unfold dW at h;cases h;exact hl
 | e::E,lv,lv',m,m',h,hs,hl=>by
   unfold dW at h;simp only at h;split at h
   ·cases h
   ·refine Di h (fun e' he'=>hs e' (by simp [he'])) fun x=>?_
    have h1:=hs e (by simp);have h2:=hl e.2.1;cases hu:decide (lv e.1<lv e.2.1+fM e) with
    | true=>
      show raise lv e.1 _ x≤f x;unfold raise;split
      ·rename_i ex;subst ex;omega
      ·exact hl x
    | false=>exact hl x
theorem iO {bad:Bool→Nat→Bool} {E:List Eg}:∀ {F:Nat} {lv lv':Str→Nat},bD bad E F lv=some lv'→iZ E lv'∧∀ f,iZ E f→(∀ x,lv x≤f x)→∀ x,lv' x≤f x
 | 0,_,_,h=>by cases h
 | F+1,lv,lv',h=>by
   unfold bD at h;split at h
   ·cases h
   ·rename_i lw hr;obtain ⟨h1,h2⟩:=iO h;exact ⟨h1,fun f hf hl=>h2 f hf (Di hr hf hl)⟩
   ·rename_i lw hr;cases h;obtain ⟨rfl,h1⟩:=rQ hr;exact ⟨h1,fun f _ hl=>hl⟩
theorem iZ.congr {E E':List Eg} {f:Str→Nat} (h:∀ e,e∈E↔e∈E') (hs:iZ E f):iZ E' f:=hs.of_sub fun e he=>(h e).2 he
theorem OO {bad bad':Bool→Nat→Bool} {E E':List Eg} {F F':Nat} {lv lv':Str→Nat} (hE:∀ e,e∈E↔e∈E') (h:bD bad E F (fun _=>0)=some lv) (h':bD bad' E' F' (fun _=>0)=some lv'):lv=lv':=by
 obtain ⟨h1,h2⟩:=iO h;obtain ⟨h3,h4⟩:=iO h';funext x;exact Nat.le_antisymm (h2 lv' (h3.congr fun e=>(hE e).symm) (fun _=>Nat.zero_le _) x) (h4 lv (h1.congr hE) (fun _=>Nat.zero_le _) x)
theorem OM {bad:Bool→Nat→Bool} {E:List Eg} {F:Nat} {lv:Str→Nat} (h:bD bad E F (fun _=>0)=some lv) {x:Str} (hx:∀ e∈E,e.1≠x):lv x=0:=by
 obtain ⟨h1,h2⟩:=iO h;have hs:iZ E (fun y=>if y=x then 0 else lv y):=fun e he=>by
  have:=h1 e he;simp only;rw [if_neg (hx e he)];split<;>omega
 have:=h2 _ hs (fun _=>Nat.zero_le _) x;simp at this;exact this
end Go.Own
namespace Go.Proofs.YtdonenoiehdahaaGreat
open Go Go.Abs Go.Own
attribute [local irreducible] WP
theorem OQ {names:List Str} {L:List Eg} (hm:∀ e∈L,e.1∈names∧e.2.1∈names):zx (qR L) (dD L)=dK names L:=by
 have hp:∀ e,e∈dD L↔e∈L:=fun e=>(fP L).mem_iff
 have h1:(zx (qR L) (dD L)).isSome=qh (dD L):=yu Yc Rk (fun e he=>Dj e ((hp e).1 he)) (Nat.lt_succ_self _);have h2:(dK names L).isSome=qh L:=yu (k:=names.length) (fun u n h=>Nat.le_of_lt (of_decide_eq_true h)) (fun u n h _=>by have:=of_decide_eq_false h;omega) hm (Nat.lt_succ_self _);rw [I8 hp,← h2] at h1;cases ha:zx (qR L) (dD L) with
 | none=>
   cases hb:dK names L with
   | none=>rfl
   | some lv=>rw [ha,hb] at h1;cases h1
 | some lv=>
   cases hb:dK names L with
   | none=>rw [ha,hb] at h1;cases h1
   | some lv'=>rw [OO hp ha hb]
theorem Lp {n:Str} {lv:Str→Nat}:∀ {names:List Str},n∉names→ofL n (names.map fun n=>(n,((lv n:Nat):Int)))=-1
 | [],_=>rfl
 | x::l,h=>by
   rw [List.map_cons,ofL,if_neg (fun e=>h (List.mem_cons.2 (.inl e.symm)))];exact Lp fun hm=>h (List.mem_cons.2 (.inr hm))
theorem of_same {names:List Str} {L:List Eg} {lv:Str→Nat} {n:Str} (hlv:dK names L=some lv) (hn:n∈names) :
  (if (0:Int)>ofL n ((qR L).map fun n=>(n,((lv n:Nat):Int))) then 0 else ofL n ((qR L).map fun n=>(n,((lv n:Nat):Int))))=ofL n (names.map fun n=>(n,((lv n:Nat):Int))):=by
 rw [Dv hn];by_cases h:n∈qR L
 ·rw [Dv h,if_neg (by omega)]
 ·rw [Lp h,if_pos (by omega)];have:lv n=0:=OM hlv fun e he e'=>h (e' ▸ (Dj e he).1)
  rw [this];rfl
def kT {α:Type} (f:α→D) (z:D) (l:List α) (i:Nat):List D:=(l.take i).map f++List.replicate (l.length-i) z
theorem Il {α:Type} {f:α→D} {z:D} {l:List α} {i:Nat} (h:i≤l.length):(kT f z l i).length=l.length:=by simp [kT];omega
theorem Ik {α:Type} {f:α→D} {z:D} {l:List α} {i:Nat} (h:i<l.length):(kT f z l i).set i (f l[i])=kT f z l (i+1):=by
 unfold kT;have hl:((l.take i).map f).length=i:=by simp;omega
 rw [List.set_append_right _ _ (by omega),hl,Nat.sub_self,show l.length-i=(l.length-(i+1))+1 by omega,List.replicate_succ,List.set_cons_zero,List.take_succ_eq_append_getElem h,List.map_append,List.append_assoc];rfl
theorem Ey {α:Type} (f:α→D) (z:D) (l:List α):kT f z l l.length=l.map f:=by simp [kT]
theorem Ew {α:Type} (f:α→D) (z:D) (l:List α):kT f z l 0=List.replicate l.length z:=by simp [kT]
theorem Ku {atoms:List Tm} {rules:List Gr} (hv:aK atoms rules=true):∀ t∈atoms,t.name≠dist:=fun t ht=>by
 obtain ⟨i,hi,rfl⟩:=List.getElem_of_mem ht;unfold aK iR at hv;simp only [Bool.and_eq_true] at hv;have:=jo.1 hv.1.1.2 i hi;rw [jP hi,Bool.and_eq_true] at this;have h:=this.1;unfold nX at h;simp only [Bool.and_eq_true,Bool.not_eq_true',beq_eq_false_iff_ne] at h;exact h.2
theorem PY {E:List Eg} {e:Eg} (h:E.Nodup):(zY E e).Nodup:=by
 unfold zY;cases hb:E.any fun x=>decide (x=e) with
 | true=>exact h
 | false=>
   have hn:e∉E:=fun hm=>by
    have:E.any (fun x=>decide (x=e))=true:=List.any_eq_true.2 ⟨e,hm,by simp⟩;rw [this] at hb;cases hb
   rw [List.nodup_append];exact ⟨h,by simp,fun a ha b hb=>by simp at hb;subst hb;exact fun e'=>hn (e' ▸ ha)⟩
theorem Ir {atoms:List Tm} {r:Gr} {E:List Eg} (h:E.Nodup):∀ k,(egR atoms r E k).Nodup
 | 0=>by simpa [egR] using h
 | k+1=>by rw [mg];exact PY (Ir h k)
theorem Ip {atoms:List Tm}:∀ {rules:List Gr} {E:List Eg},E.Nodup→(dX atoms rules E).Nodup
 | [],E,h=>h
 | r::l,E,h=>by
   show (dX atoms l (egR atoms r E (szR r))).Nodup;exact Ip (Ir h _)
theorem NQ {E:List Eg} {e:Eg} (h:e∈E):zY E e=E:=by
 unfold zY;rw [show (E.any fun x=>decide (x=e))=true from List.any_eq_true.2 ⟨e,h,by simp⟩]
theorem NR {E:List Eg} {e:Eg} (h:e∉E):zY E e=E++[e]:=by
 unfold zY
 rw [show (E.any fun x=>decide (x=e))=false from Bool.eq_false_iff.2 fun hb=>by
  obtain ⟨x,hx,e'⟩:=List.any_eq_true.1 hb
  rw [of_decide_eq_true e'] at hx;exact h hx]
theorem Nh {atoms:List Tm} {r:Gr} {k:Nat} (h:k<r.2.1.length):jM atoms r k=(nameAt atoms r.1,nameAt atoms r.2.1[k],false):=by
 unfold jM;rw [decide_eq_true h,List.getElem?_eq_getElem h];rfl
theorem Nj {atoms:List Tm} {r:Gr} {k:Nat} (h:k<r.2.2.length):jM atoms r (r.2.1.length+k)=(nameAt atoms r.1,nameAt atoms r.2.2[k],true):=by
 unfold jM;rw [decide_eq_false (by omega),show r.2.1.length+k-r.2.1.length=k by omega,List.getElem?_eq_getElem h];rfl
set_option maxRecDepth 10000 in
theorem Tryz.Qg (atoms:List Tm) (rules:List Gr) (hok:∀ x∈atoms,okT x) (hv:aK atoms rules=true) (hn:atoms.length≤64) (hr:rules.length≤128) (hf:∀ r∈rules,r.2.1.length+r.2.2.length≤16) :
  Pure Tryz.prog 75 [gD atoms rules] (strD atoms (nmS atoms) (dX atoms rules [])):=by
 have hin:=eP hv;have hnm:=Ku hv;refine Pure.of_wp hT (nt:=_) (c:=_) Tryz.func75 rfl rfl rfl rfl (by kernel_rfl) ?_;intro w0 ok0 β0;repeat (refine gw rfl ?_;conv=>whnf)
 refine WP.loop (α:=Nat) (fun i=>⟨[(1,.d (.ref [.list (atoms.map enT),.list (rules.map enG)] 0)),(5,.ptr 5 0),(6,.func (.func 112) [] [.d (.ref [.list (atoms.map enT),.list (rules.map enG)] 0),.ptr 4 0,.ptr 5 0]),(20,.d (.list (rules.map enG))),(21,.d (.int .i64 rules.length)),(22,.d (.int .i64 i))],[((4,0),some (.cell (.map 17))),((17,0),some (.map (mpE (dX atoms (rules.take i) [])))),((5,0),some (.cell (.sl 18 3 0 (dX atoms (rules.take i) []).length))),((18,0),some (.arr 3 ((dX atoms (rules.take i) []).map enR)))],[4,17,5,18]⟩)
  (fun i=>i≤rules.length∧(dX atoms (rules.take i) []).length≤16*i) (fun i=>rules.length-i) 0 [(4,some 4),(17,some 17),(5,some 5),(18,none)] [] ?_ ?_ ?_
 ·rw [List.length_map];((conv=>whnf);repeat (first | exact ⟨⟩ | (refine ⟨by first | rfl | (simp;done) | (simp;omega),?_⟩;conv=>whnf)))
 ·exact ⟨Nat.zero_le _,Nat.zero_le _⟩
 ·rintro i ⟨hi,hEl⟩;repeat (refine gw rfl ?_;conv=>whnf)
  (split<;>rename_i hb<;>(try rw [hb])<;>(conv=>whnf))
  ·have hlt:i<rules.length:=(by simpa using hb);clear hb;have hm:=hin.head rules[i] (List.getElem_mem hlt);have hbd:=hin.body rules[i] (List.getElem_mem hlt);have hfi:=hf rules[i] (List.getElem_mem hlt);generalize hE0:dX atoms (rules.take i) []=E0 at hEl;(repeat (refine gw rfl ?_;conv=>whnf));refine ⟨by omega,_,Md hlt,rfl,?_⟩;(conv=>whnf);(repeat (refine gw rfl ?_;conv=>whnf));refine WP.loop (α:=Nat) (fun k=>⟨[(1,.d (.ref [.list (atoms.map enT),.list (rules.map enG)] 0)),(5,.ptr 5 0),(6,.func (.func 112) [] [.d (.ref [.list (atoms.map enT),.list (rules.map enG)] 0),.ptr 4 0,.ptr 5 0]),(20,.d (.list (rules.map enG))),(21,.d (.int .i64 rules.length)),(22,.d (.int .i64 i)),(8,.ptr 8 0),(27,.d (.list (rules[i].2.1.map enI))),(28,.d (.int .i64 rules[i].2.1.length)),(29,.d (.int .i64 k))],[((4,0),some (.cell (.map 17))),((17,0),some (.map (mpE (egR atoms rules[i] E0 k)))),((5,0),some (.cell (.sl 18 3 0 (egR atoms rules[i] E0 k).length))),((18,0),some (.arr 3 ((egR atoms rules[i] E0 k).map enR))),((8,0),some (.cell (.d (.int .i64 rules[i].1)))),((8,1),some (.cell (.d (.list (rules[i].2.1.map enI))))),((8,2),some (.cell (.d (.list (rules[i].2.2.map enI)))))],[4,17,5,18,8]⟩)
    (fun k=>k≤rules[i].2.1.length∧(egR atoms rules[i] E0 k).length≤E0.length+k) (fun k=>rules[i].2.1.length-k) 0 [(4,some 4),(17,some 17),(5,some 5),(18,some 18),(8,some 8)] [] ?_ ?_ ?_
   ·rw [List.length_map];((conv=>whnf);repeat (first | exact ⟨⟩ | (refine ⟨by first | rfl | (simp;done) | (simp;omega),?_⟩;conv=>whnf)))
   ·exact ⟨Nat.zero_le _,Nat.le_refl _⟩
   ·rintro k ⟨hk,hEk⟩;(repeat (refine gw rfl ?_;conv=>whnf));(split<;>rename_i hb<;>(try rw [hb])<;>(conv=>whnf))
    ·have hlk:k<rules[i].2.1.length:=(by simpa using hb);clear hb;(repeat (refine gw rfl ?_;conv=>whnf));refine ⟨by omega,_,ay hlk,rfl,?_⟩;(conv=>whnf);(repeat (refine gw rfl ?_;conv=>whnf));have hyr:=hbd.1 rules[i].2.1[k] (List.getElem_mem hlk);have hyl:rules[i].2.1[k].toNat<atoms.length:=(by omega);have hsc:=mg atoms rules[i] E0 k;rw [Nh hlk] at hsc;generalize hE1:egR atoms rules[i] E0 k=E1 at hEk hsc ⊢;by_cases hmem:(nameAt atoms rules[i].1,nameAt atoms rules[i].2.1[k],false)∈E1
     ·rw [NQ hmem] at hsc;refine .inr ⟨_,_,_,_,_,_,Tryz.Wq atoms rules E1 rules[i].1 rules[i].2.1[k] false (by omega) (by omega) (by omega) hyl hmem,[(4,4),(17,17),(5,5),(18,18)],[],rfl,rfl,?_⟩;(conv=>whnf);refine ⟨rfl,rfl,rfl,rfl,?_⟩;(conv=>whnf);(repeat (refine gw rfl ?_;conv=>whnf));refine ⟨by omega,?_⟩;(conv=>whnf);refine ⟨k+1,[(4,some 4),(17,some 17),(5,some 5),(18,some 18),(8,some 8)],[],?_,⟨by omega,by rw [hsc];omega⟩,by omega⟩;rw [hsc];((conv=>whnf);repeat (first | exact ⟨⟩ | (refine ⟨by first | rfl | (simp;done) | (simp;omega),?_⟩;conv=>whnf)))
     ·rw [NR hmem] at hsc;refine .inr ⟨_,_,_,_,_,_,Tryz.Ws atoms rules E1 rules[i].1 rules[i].2.1[k] false (by omega) (by omega) (by omega) hyl hmem (by omega),[(4,4),(17,17),(5,5),(18,18),(42,37)],[37],rfl,rfl,?_⟩;(conv=>whnf);refine ⟨rfl,rfl,rfl,rfl,?_⟩;(conv=>whnf);(repeat (refine gw rfl ?_;conv=>whnf));refine ⟨by omega,?_⟩;(conv=>whnf);have hll:(E1++[(nameAt atoms rules[i].1,nameAt atoms rules[i].2.1[k],false)]).length=E1.length+1:=(by simp);refine ⟨k+1,[(4,some 4),(17,some 17),(5,some 5),(18,some 37),(8,some 8)],[],?_,⟨by omega,by rw [hsc,hll];omega⟩,by omega⟩;rw [hsc,hll];((conv=>whnf);repeat (first | exact ⟨⟩ | (refine ⟨by first | rfl | (simp;done) | (simp;omega),?_⟩;conv=>whnf)))
    ·have hke:k=rules[i].2.1.length:=(by simp at hb;omega);subst hke;clear hb;(repeat (refine gw rfl ?_;conv=>whnf));refine WP.loop (α:=Nat) (fun k=>⟨[(1,.d (.ref [.list (atoms.map enT),.list (rules.map enG)] 0)),(5,.ptr 5 0),(6,.func (.func 112) [] [.d (.ref [.list (atoms.map enT),.list (rules.map enG)] 0),.ptr 4 0,.ptr 5 0]),(20,.d (.list (rules.map enG))),(21,.d (.int .i64 rules.length)),(22,.d (.int .i64 i)),(8,.ptr 8 0),(40,.d (.list (rules[i].2.2.map enI))),(41,.d (.int .i64 rules[i].2.2.length)),(42,.d (.int .i64 k))],[((4,0),some (.cell (.map 17))),((17,0),some (.map (mpE (egR atoms rules[i] E0 (rules[i].2.1.length+k))))),((5,0),some (.cell (.sl 18 3 0 (egR atoms rules[i] E0 (rules[i].2.1.length+k)).length))),((18,0),some (.arr 3 ((egR atoms rules[i] E0 (rules[i].2.1.length+k)).map enR))),((8,0),some (.cell (.d (.int .i64 rules[i].1)))),((8,1),some (.cell (.d (.list (rules[i].2.1.map enI))))),((8,2),some (.cell (.d (.list (rules[i].2.2.map enI)))))],[4,17,5,18,8]⟩)
      (fun k=>k≤rules[i].2.2.length∧(egR atoms rules[i] E0 (rules[i].2.1.length+k)).length≤E0.length+rules[i].2.1.length+k) (fun k=>rules[i].2.2.length-k) 0 [(4,some 4),(17,some 17),(5,some 5),(18,some 18),(8,some 8)] [] ?_ ?_ ?_
     ·rw [List.length_map];((conv=>whnf);repeat (first | exact ⟨⟩ | (refine ⟨by first | rfl | (simp;done) | (simp;omega),?_⟩;conv=>whnf)))
     ·exact ⟨Nat.zero_le _,hEk⟩
     ·rintro k ⟨hk,hEk⟩;(repeat (refine gw rfl ?_;conv=>whnf));(split<;>rename_i hb<;>(try rw [hb])<;>(conv=>whnf))
      ·have hlk:k<rules[i].2.2.length:=(by simpa using hb);clear hb;(repeat (refine gw rfl ?_;conv=>whnf));refine ⟨by omega,_,ay hlk,rfl,?_⟩;(conv=>whnf);(repeat (refine gw rfl ?_;conv=>whnf));have hyr:=hbd.2 rules[i].2.2[k] (List.getElem_mem hlk);have hyl:rules[i].2.2[k].toNat<atoms.length:=(by omega);have hsc:=mg atoms rules[i] E0 (rules[i].2.1.length+k);rw [Nj hlk] at hsc;generalize hE1:egR atoms rules[i] E0 (rules[i].2.1.length+k)=E1 at hEk hsc ⊢;by_cases hmem:(nameAt atoms rules[i].1,nameAt atoms rules[i].2.2[k],true)∈E1
       ·rw [NQ hmem] at hsc;refine .inr ⟨_,_,_,_,_,_,Tryz.Wq atoms rules E1 rules[i].1 rules[i].2.2[k] true (by omega) (by omega) (by omega) hyl hmem,[(4,4),(17,17),(5,5),(18,18)],[],rfl,rfl,?_⟩;(conv=>whnf);refine ⟨rfl,rfl,rfl,rfl,?_⟩;(conv=>whnf);(repeat (refine gw rfl ?_;conv=>whnf));refine ⟨by omega,?_⟩;(conv=>whnf);refine ⟨k+1,[(4,some 4),(17,some 17),(5,some 5),(18,some 18),(8,some 8)],[],?_,⟨by omega,by rw [show rules[i].2.1.length+(k+1)=rules[i].2.1.length+k+1 by omega,hsc];omega⟩,by omega⟩;rw [show rules[i].2.1.length+(k+1)=rules[i].2.1.length+k+1 by omega,hsc];((conv=>whnf);repeat (first | exact ⟨⟩ | (refine ⟨by first | rfl | (simp;done) | (simp;omega),?_⟩;conv=>whnf)))
       ·rw [NR hmem] at hsc;refine .inr ⟨_,_,_,_,_,_,Tryz.Ws atoms rules E1 rules[i].1 rules[i].2.2[k] true (by omega) (by omega) (by omega) hyl hmem (by omega),[(4,4),(17,17),(5,5),(18,18),(42,50)],[50],rfl,rfl,?_⟩;(conv=>whnf);refine ⟨rfl,rfl,rfl,rfl,?_⟩;(conv=>whnf);(repeat (refine gw rfl ?_;conv=>whnf));refine ⟨by omega,?_⟩;(conv=>whnf);have hll:(E1++[(nameAt atoms rules[i].1,nameAt atoms rules[i].2.2[k],true)]).length=E1.length+1:=(by simp);refine ⟨k+1,[(4,some 4),(17,some 17),(5,some 5),(18,some 50),(8,some 8)],[],?_,⟨by omega,by rw [show rules[i].2.1.length+(k+1)=rules[i].2.1.length+k+1 by omega,hsc,hll];omega⟩,by omega⟩;rw [show rules[i].2.1.length+(k+1)=rules[i].2.1.length+k+1 by omega,hsc,hll];((conv=>whnf);repeat (first | exact ⟨⟩ | (refine ⟨by first | rfl | (simp;done) | (simp;omega),?_⟩;conv=>whnf)))
      ·have hke:k=rules[i].2.2.length:=(by simp at hb;omega);subst hke;clear hb;(repeat (refine gw rfl ?_;conv=>whnf));refine ⟨by omega,?_⟩;(conv=>whnf);have hsn:=Iq (atoms:=atoms) (E:=[]) hlt;rw [hE0] at hsn;unfold szR at hsn;refine ⟨i+1,[(4,some 4),(17,some 17),(5,some 5),(18,some 18)],[],?_,⟨by omega,by rw [hsn];omega⟩,by omega⟩;rw [hsn];((conv=>whnf);repeat (first | exact ⟨⟩ | (refine ⟨by first | rfl | (simp;done) | (simp;omega),?_⟩;conv=>whnf)))
  ·have:i=rules.length:=(by simp at hb;omega);subst this;clear hb;rw [List.take_length] at hEl ⊢;have hnd:=Ip (atoms:=atoms) (rules:=rules) (E:=[]) (by simp);have hie:=Pv hin;generalize dX atoms rules []=L at hEl hnd hie ⊢;have hdist:∀ e∈L,e.1≠dist∧e.2.1≠dist:=fun e he=>by
    obtain ⟨h1,h2⟩:=hie e he;obtain ⟨t,ht,e1⟩:=BJ.1 h1;obtain ⟨u,hu,e2⟩:=BJ.1 h2;exact ⟨e1 ▸ hnm t ht,e2 ▸ hnm u hu⟩
   refine WP.weak (l':=⟨[(1,.d (.ref [.list (atoms.map enT),.list (rules.map enG)] 0)),(5,.ptr 5 0)],[((5,0),some (.cell (.d (.list (L.map enR)))))],[5]⟩) [(5,some 5)] [18] ?_ ?_
   ·((conv=>whnf);repeat (first | exact ⟨⟩ | (refine ⟨by first | rfl | (simp;done) | (simp;omega),?_⟩;conv=>whnf)));refine ⟨L.map enR,by rw [List.drop_zero];exact List.take_of_length_le (by simp),by simp,rfl,?_⟩;((conv=>whnf);repeat (first | exact ⟨⟩ | (refine ⟨by first | rfl | (simp;done) | (simp;omega),?_⟩;conv=>whnf)))
   (repeat (refine gw rfl ?_;conv=>whnf));refine .inl ⟨_,Tryz.levels L hdist hnd (by omega),.inl rfl,?_⟩;rw [OQ hie];unfold strD;cases hlv:dK (nmS atoms) L with
   | none=>
     dsimp only;(conv=>whnf);repeat (refine gw rfl ?_;conv=>whnf)
   | some lv=>
     dsimp only;(conv=>whnf);(repeat (refine gw rfl ?_;conv=>whnf));rw [List.length_map];refine ⟨⟨by omega,by omega,by omega,by show 8*_≤_;omega⟩,?_⟩;(conv=>whnf);refine ⟨rfl,?_⟩;(conv=>whnf);(repeat (refine gw rfl ?_;conv=>whnf));rw [Int.toNat_natCast];refine WP.loop (α:=Nat) (fun i=>⟨[(1,.d (.ref [.list (atoms.map enT),.list (rules.map enG)] 0)),(13,.d (.list (lvD (qR L) lv))),(15,.sl 64 1 0 atoms.length),(66,.d (.int .i64 atoms.length)),(67,.d (.int .i64 i))],[((64,0),some (.arr 1 (kT (fun t:Tm=>D.int .i64 (ofL t.name ((nmS atoms).map fun n=>(n,((lv n:Nat):Int))))) (.int .i64 0) atoms i)))],[64]⟩)
      (fun i=>i≤atoms.length) (fun i=>atoms.length-i) 0 [(64,some 64)] [] ?_ ?_ ?_
     ·rw [Ew];((conv=>whnf);repeat (first | exact ⟨⟩ | (refine ⟨by first | rfl | (simp;done) | (simp;omega),?_⟩;conv=>whnf)))
     ·exact Nat.zero_le _
     ·intro i hi;(repeat (refine gw rfl ?_;conv=>whnf));(split<;>rename_i hb<;>(try rw [hb])<;>(conv=>whnf))
      ·have hlt:i<atoms.length:=(by simpa using hb);clear hb;have hof:=Tryz.ofP ((qR L).map fun n=>(n,((lv n:Nat):Int))) atoms[i].name (by rw [List.length_map];have:=Lc L;omega);rw [← Js] at hof;have hsm:=of_same hlv (BJ.2 ⟨atoms[i],List.getElem_mem hlt,rfl⟩:atoms[i].name∈nmS atoms);(repeat (refine gw rfl ?_;conv=>whnf));refine ⟨by omega,_,dB hlt,rfl,?_⟩;(conv=>whnf);refine .inl ⟨_,hof,.inl rfl,?_⟩;(conv=>whnf);rw [hsm];refine ⟨by omega,?_⟩;rw [Int.toNat_natCast];(conv=>whnf);refine ⟨rfl,_,by rw [Nat.zero_add];exact List.getElem?_eq_getElem (by rw [Il (by omega)];exact hlt),?_⟩;(conv=>whnf);refine .inl ⟨rfl,rfl,?_⟩;rw [Nat.zero_add,show List.set (kT (fun t:Tm=>D.int .i64 (ofL t.name ((nmS atoms).map fun n=>(n,((lv n:Nat):Int))))) (.int .i64 0) atoms i) i _=_ from Ik (f:=(fun t:Tm=>D.int .i64 (ofL t.name ((nmS atoms).map fun n=>(n,((lv n:Nat):Int)))))) hlt];(conv=>whnf);(repeat (refine gw rfl ?_;conv=>whnf));refine ⟨by omega,?_⟩;(conv=>whnf);refine ⟨i+1,[(64,some 64)],[],?_,by omega,by omega⟩;((conv=>whnf);repeat (first | exact ⟨⟩ | (refine ⟨by first | rfl | (simp;done) | (simp;omega),?_⟩;conv=>whnf)))
      ·have:i=atoms.length:=(by simp at hb;omega);subst this;clear hb;rw [Ey];(repeat (refine gw rfl ?_;conv=>whnf));refine ⟨atoms.map (fun t:Tm=>D.int .i64 (ofL t.name ((nmS atoms).map fun n=>(n,((lv n:Nat):Int))))),by rw [List.drop_zero];exact List.take_of_length_le (by simp),by simp,?_⟩;conv=>whnf
theorem Tryz.Qh (atoms:List Tm) (rules:List Gr) (hok:∀ x∈atoms,okT x) (hv:aK atoms rules=true) (hn:atoms.length≤64) (hr:rules.length≤128) (hf:∀ r∈rules,r.2.1.length+r.2.2.length≤16) :
  Pure Tryz.prog 31 [gD atoms rules] (strD atoms (nmS atoms) (dX atoms rules [])):=by
 have hfit:zJ rules:=fun r h=>by have:=hf r h;omega
 have hs:=Tryz.Qg atoms rules hok hv hn hr hf;unfold strD at hs ⊢;refine Pure.of_wp hT (nt:=_) (c:=_) Tryz.func31 rfl rfl rfl rfl (by kernel_rfl) ?_;intro w0 ok0 β0;repeat (refine gw rfl ?_;conv=>whnf)
 refine .inl ⟨_,Tryz.Ce atoms rules hok hfit,.inl rfl,?_⟩;rw [hv];conv=>whnf
 repeat (refine gw rfl ?_;conv=>whnf)
 cases hlv:dK (nmS atoms) (dX atoms rules []) with
 | none=>
   rw [hlv] at hs;dsimp only at hs;refine .inl ⟨_,hs,.inl rfl,?_⟩;(conv=>whnf);repeat (refine gw rfl ?_;conv=>whnf)
 | some lv=>
   rw [hlv] at hs;dsimp only at hs;refine .inl ⟨_,hs,.inl rfl,?_⟩;(conv=>whnf);repeat (refine gw rfl ?_;conv=>whnf)
end Go.Proofs.YtdonenoiehdahaaGreat
namespace Go.Own
def eX (str:List Int) (s round:Int) (q:List Int×Bool) (r:Gr):List Int×Bool:=match decide (rkI q.1 r.1<0)&&nR str q.1 s round r with
 | true=>(q.1.set r.1.toNat round,true)
 | false=>q
def nI (str:List Int) (s:Int) (rules:List Gr) (round:Int) (rk:List Int):List Int×Bool:=rules.foldl (eX str s round) (rk,false)
def fE (str:List Int) (s:Int) (rules:List Gr):Nat→Int→List Int→List Int
 | 0,_,rk=>rk
 | f+1,round,rk=>match (nI str s rules round rk).2 with
   | true=>fE str s rules f (round+1) (nI str s rules round rk).1
   | false=>(nI str s rules round rk).1
def sG (str:List Int):Int:=str.foldl (fun m s=>if s>m then s else m) 0
def inS (str:List Int) (s:Nat) (r:Gr):Bool:=decide (rkI str r.1=(s:Nat))
def jm (n:Nat) (str:List Int) (rules:List Gr) (k:Nat):List Int:=(List.range k).foldl (fun rk s=>fE str (s:Nat) (rules.filter (inS str s)) (n+1) 1 rk) (List.replicate n (-1))
def jF (n:Nat) (str:List Int) (rules:List Gr):List Int:=jm n str rules ((sG str).toNat+1)
theorem Az:∀ (l:List Int) (m:Int),(∀ s∈l,s≤l.foldl (fun m s=>if s>m then s else m) m)∧m≤l.foldl (fun m s=>if s>m then s else m) m∧(∀ b,m≤b→(∀ s∈l,s≤b)→l.foldl (fun m s=>if s>m then s else m) m≤b)
 | [],m=>⟨(fun s h=>by cases h),Int.le_refl _,fun b h _=>h⟩
 | x::l,m=>by
   obtain ⟨h1,h2,h3⟩:=Az l (if x>m then x else m);have h4:x≤(if x>m then x else m)∧m≤(if x>m then x else m):=(by split<;>omega);refine ⟨fun s hs=>?_,Int.le_trans h4.2 h2,fun b hb hl=>h3 b ?_ fun s hs=>hl s (by simp [hs])⟩
   ·rcases List.mem_cons.1 hs with rfl | hs
    ·exact Int.le_trans h4.1 h2
    ·exact h1 s hs
   ·have:=hl x (by simp);split<;>omega
theorem Gv (str:List Int) (s round:Int) (q:List Int×Bool) (r:Gr):(eX str s round q r).1.length=q.1.length:=by
 unfold eX;split<;>simp
theorem zD (str:List Int) (s round:Int):∀ (l:List Gr) (q:List Int×Bool),(l.foldl (eX str s round) q).1.length=q.1.length
 | [],q=>rfl
 | r::l,q=>by rw [List.foldl_cons,zD str s round l,Gv]
theorem NZ {str:List Int} {s round:Int} (hr:0≤round) {q:List Int×Bool} {r:Gr} (hi:r.1.toNat<q.1.length):jC (eX str s round q r).1≤jC q.1∧((eX str s round q r).2=true→q.2=true∨jC (eX str s round q r).1<jC q.1):=by
 unfold eX;cases hb:decide (rkI q.1 r.1<0)&&nR str q.1 s round r with
 | false=>exact ⟨Nat.le_refl _,fun h => .inl h⟩
 | true=>
   rw [Bool.and_eq_true] at hb;have h1:=of_decide_eq_true hb.1;rw [uy hi] at h1;have:=LM hi h1 hr;exact ⟨by dsimp only;omega,fun _ => .inr (by dsimp only;omega)⟩
theorem wW {str:List Int} {s round:Int} (hr:0≤round):∀ {l:List Gr} {q:List Int×Bool},(∀ r∈l,r.1.toNat<q.1.length)→jC (l.foldl (eX str s round) q).1≤jC q.1∧((l.foldl (eX str s round) q).2=true→q.2=true∨jC (l.foldl (eX str s round) q).1<jC q.1)
 | [],q,_=>⟨Nat.le_refl _,fun h => .inl h⟩
 | r::l,q,h=>by
   obtain ⟨h1,h2⟩:=NZ (str:=str) (s:=s) hr (h r (by simp));obtain ⟨h3,h4⟩:=wW (str:=str) (s:=s) hr (l:=l) (q:=eX str s round q r) fun x hx=>by rw [Gv];exact h x (by simp [hx])
   rw [List.foldl_cons];refine ⟨Nat.le_trans h3 h1,fun h5=>?_⟩;rcases h4 h5 with h6 | h6
   ·rcases h2 h6 with h7 | h7
    ·exact .inl h7
    ·exact .inr (by omega)
   ·exact .inr (by omega)
def qL (str:List Int) (rules:List Gr) (i s:Nat):List Gr:=(rules.take i).filter (inS str s)
end Go.Own
namespace Go.Proofs.YtdonenoiehdahaaGreat
open Go Go.Abs Go.Own
attribute [local irreducible] WP
def rsD (m:Nat) (str:List Int) (rules:List Gr) (i:Nat):List (List D):=(List.range m).map fun s=>(qL str rules i s).map enG
theorem xP (m:Nat) (str:List Int) (rules:List Gr) (i:Nat):(rsD m str rules i).length=m:=by simp [rsD]
theorem Uh (m:Nat) (str:List Int) (rules:List Gr):List.replicate m ([]:List D)=rsD m str rules 0:=by
 refine List.ext_getElem (by simp [rsD]) fun i h1 h2=>by simp [rsD,qL]
theorem BG {m:Nat} {str:List Int} {rules:List Gr} {i s:Nat} (h:s<m):(rsD m str rules i)[s]?=some ((qL str rules i s).map enG):=by
 unfold rsD;rw [List.getElem?_map,List.getElem?_range h];rfl
theorem RU (str:List Int) (rules:List Gr) (i s:Nat):(qL str rules i s).length≤rules.length:=by
 unfold qL;exact Nat.le_trans (List.length_filter_le _ _) (by rw [List.length_take];omega)
theorem Ue {α:Type} {l:List α} {i:Nat} {x:α} (h:l[i]?=some x):l.set i x=l:=by
 obtain ⟨hi,rfl⟩:=List.getElem?_eq_some_iff.1 h;exact List.set_getElem_self hi
theorem Ui {m:Nat} {str:List Int} {rules:List Gr} {i:Nat} (hi:i<rules.length) (h0:0≤rkI str rules[i].1) :
  (rsD m str rules i).set (rkI str rules[i].1).toNat ((qL str rules i (rkI str rules[i].1).toNat).map enG++[enG rules[i]])=rsD m str rules (i+1):=by
 refine List.ext_getElem? fun a=>?_
 have hs:∀ s,qL str rules (i+1) s=qL str rules i s++(match inS str s rules[i] with | true=>[rules[i]] | false=>[]):=fun s=>by
  unfold qL;rw [List.take_succ_eq_append_getElem hi,List.filter_append];cases hb:inS str s rules[i] with
  | true=>rw [List.filter_cons_of_pos hb];rfl
  | false=>rw [List.filter_cons_of_neg (by rw [hb];simp)];rfl
 by_cases ha:a<m
 ·rw [BG ha,hs];by_cases e:(rkI str rules[i].1).toNat=a
  ·rw [← e,List.getElem?_set_self (by rw [xP];omega),show inS str (rkI str rules[i].1).toNat rules[i]=true from decide_eq_true (by omega),List.map_append];rfl
  ·rw [List.getElem?_set_ne e,BG ha,show inS str a rules[i]=false from decide_eq_false (by omega),List.append_nil]
 ·rw [List.getElem?_eq_none (by rw [List.length_set,xP];omega),List.getElem?_eq_none (by rw [xP];omega)]
set_option maxRecDepth 10000 in
theorem Tryz.WX (atoms:List Tm) (rules:List Gr) (str:List Int) (hin:dZ atoms.length rules) (hn:atoms.length≤64) (hr:rules.length≤128) (hf:∀ r∈rules,r.2.1.length+r.2.2.length≤16) (hsl:str.length=atoms.length) (hs:∀ s∈str,0≤s∧s≤1000) :
  aH Tryz.prog 146 [] [.d (gD atoms rules),.d (.list (str.map enI)),.aG] [] [] [.d (.list ((jF atoms.length str rules).map enI))] []:=by
 have hm1:=Az str 0;have hmost:0≤sG str∧sG str≤1000∧∀ s∈str,s≤sG str:=⟨hm1.2.1,hm1.2.2 1000 (by omega) fun s h=>(hs s h).2,hm1.1⟩;clear hm1;obtain ⟨n,hnn⟩:∃ n,atoms.length=n:=⟨_,rfl⟩
 rw [hnn] at hin hn hsl ⊢;refine aH.of_wp hT (nt:=_) (c:=_) Tryz.func146 rfl rfl rfl rfl (by kernel_rfl) rfl rfl ?_;intro w0 ok0 wr β0;repeat (refine gw rfl ?_;conv=>whnf)
 have hnl:(atoms.map enT).length=n:=by rw [List.length_map,hnn]
 refine ⟨⟨by omega,by omega,by omega,by show 8*_≤_;omega⟩,?_⟩;conv=>whnf
 refine ⟨rfl,?_⟩;rw [Int.toNat_natCast,hnl,show List.replicate n (D.int .i64 0)=kT enI (.int .i64 0) (List.replicate n (-1)) 0 from by rw [Ew,List.length_replicate]];conv=>whnf
 repeat (refine gw rfl ?_;conv=>whnf)
 refine WP.loop (α:=Nat) (fun i=>⟨[(1,.d (.list (str.map enI))),(2,.aG),(3,.d (.ref [.list (atoms.map enT),.list (rules.map enG)] 0)),(7,.sl 60 1 0 n),(28,.d (.int .i64 n)),(29,.d (.int .i64 i))],[((60,0),some (.arr 1 (kT enI (.int .i64 0) (List.replicate n (-1)) i)))],[60]⟩)
  (fun i=>i≤n) (fun i=>n-i) 0 [(60,some 26)] [] ?_ ?_ ?_
 ·((conv=>whnf);repeat (first | exact ⟨⟩ | (refine ⟨by first | rfl | (simp;done) | (simp;omega),?_⟩;conv=>whnf)))
 ·exact Nat.zero_le _
 ·intro i hi;repeat (refine gw rfl ?_;conv=>whnf)
  (split<;>rename_i hb<;>(try rw [hb])<;>(conv=>whnf))
  ·have hlt:i<n:=(by simpa using hb);clear hb;(repeat (refine gw rfl ?_;conv=>whnf));refine ⟨⟨by omega,by omega⟩,?_⟩;rw [Int.toNat_natCast];(conv=>whnf);refine ⟨rfl,_,by rw [Nat.zero_add];exact List.getElem?_eq_getElem (by rw [Il (by simp;omega)];simpa using hlt),?_⟩;(conv=>whnf);refine .inl ⟨rfl,rfl,?_⟩
   rw [Nat.zero_add,show List.set (kT enI (.int .i64 0) (List.replicate n (-1)) i) i (.int .i64 (-1))=kT enI (.int .i64 0) (List.replicate n (-1)) (i+1) from by
    have:=Ik (f:=enI) (z := .int .i64 0) (l:=List.replicate n (-1)) (i:=i) (by simpa using hlt);rw [List.getElem_replicate] at this
    exact this]
   (conv=>whnf);(repeat (refine gw rfl ?_;conv=>whnf));refine ⟨by omega,?_⟩;(conv=>whnf);refine ⟨i+1,[(60,some 60)],[],?_,by omega,by omega⟩;((conv=>whnf);repeat (first | exact ⟨⟩ | (refine ⟨by first | rfl | (simp;done) | (simp;omega),?_⟩;conv=>whnf)))
  ·have hin':i=n:=(by simp at hb;omega);subst hin';clear hb
   rw [show kT enI (.int .i64 0) (List.replicate i (-1)) i=(List.replicate i (-1)).map enI from by
    have:=Ey enI (.int .i64 0) (List.replicate i (-1))
    rwa [List.length_replicate] at this]
   (repeat (refine gw rfl ?_;conv=>whnf));refine WP.loop (α:=Unit) (fun _=>⟨[(1,.d (.list (str.map enI))),(3,.d (.ref [.list (atoms.map enT),.list (rules.map enG)] 0)),(7,.sl 60 1 0 i),(37,.d (.int .i64 0)),(38,.d (.int .i64 0))],[((60,0),some (.arr 1 ((List.replicate i (-1)).map enI)))],[60]⟩)
    (fun _=>True) (fun _=>0) () [(60,some 60)] [] ?_ ?_ ?_
   ·((conv=>whnf);repeat (first | exact ⟨⟩ | (refine ⟨by first | rfl | (simp;done) | (simp;omega),?_⟩;conv=>whnf)))
   ·trivial
   ·rintro _ _;(repeat (refine gw rfl ?_;conv=>whnf));refine WP.loop (α:=Nat) (fun k=>⟨[(1,.d (.list (str.map enI))),(3,.d (.ref [.list (atoms.map enT),.list (rules.map enG)] 0)),(7,.sl 60 1 0 i),(11,.d (.int .i64 (sG (str.take k)))),(46,.d (.list (str.map enI))),(47,.d (.int .i64 str.length)),(48,.d (.int .i64 k))],[((60,0),some (.arr 1 ((List.replicate i (-1)).map enI)))],[60]⟩)
     (fun k=>k≤str.length) (fun k=>str.length-k) 0 [(60,some 60)] [] ?_ ?_ ?_
    ·rw [List.length_map];((conv=>whnf);repeat (first | exact ⟨⟩ | (refine ⟨by first | rfl | (simp;done) | (simp;omega),?_⟩;conv=>whnf)))
    ·exact Nat.zero_le _
    ·intro k hk;(repeat (refine gw rfl ?_;conv=>whnf));(split<;>rename_i hb<;>(try rw [hb])<;>(conv=>whnf))
     ·have hlk:k<str.length:=(by simpa using hb);clear hb;(repeat (refine gw rfl ?_;conv=>whnf));refine ⟨by omega,_,ay hlk,rfl,?_⟩;(conv=>whnf);(repeat (refine gw rfl ?_;conv=>whnf));refine ⟨by omega,?_⟩;(conv=>whnf);refine ⟨k+1,[(60,some 60)],[],?_,by omega,by omega⟩;rw [show sG (str.take (k+1))=if str[k]>sG (str.take k) then str[k] else sG (str.take k) from bn _ _ _ hlk];((conv=>whnf);repeat (first | exact ⟨⟩ | (refine ⟨by first | rfl | (simp;done) | (simp;omega),?_⟩;conv=>whnf)))
     ·have hke:k=str.length:=(by simp at hb;omega);subst hke;clear hb;rw [List.take_length];refine gw rfl ?_;(conv=>whnf);refine W1 ?_;refine W2 hT hM [58] ?_;(conv=>whnf);obtain ⟨M,hMo⟩:∃ M:Nat,sG str=M:=⟨(sG str).toNat,by omega⟩
      have hRF:jF i str rules=jm i str rules (M+1):=(by unfold jF;rw [hMo,Int.toNat_natCast]);rw [hRF,hMo];rw [hMo] at hmost;refine ⟨by omega,?_⟩;(conv=>whnf);refine ⟨⟨by omega,by omega,by omega,by show ((24:Nat):Int)*((M:Int)+1)≤281474976710656;omega⟩,?_⟩;rw [show ((M:Int)+1)=((M+1:Nat):Int) by omega,Int.toNat_natCast,Uh (M+1) str rules];(conv=>whnf);repeat (refine gw rfl ?_;conv=>whnf)
      refine WP.loop (α:=Nat) (fun k=>⟨[(1,.d (.list (str.map enI))),(3,.d (.ref [.list (atoms.map enT),.list (rules.map enG)] 0)),(7,.sl 60 1 0 i),(11,.d (.int .i64 M)),(14,.rsl 58 (M+1)),(60,.d (.list (rules.map enG))),(61,.d (.int .i64 rules.length)),(62,.d (.int .i64 k))],
        [((60,0),some (.arr 1 ((List.replicate i (-1)).map enI))),((58,0),some (.rows 3 (rsD (M+1) str rules k) none))],[60,58]⟩)
       (fun k=>k≤rules.length) (fun k=>rules.length-k) 0 [(60,some 60),(58,some 58)] [] ?_ ?_ ?_
      ·rw [List.length_map];((conv=>whnf);repeat (first | exact ⟨⟩ | (refine ⟨by first | rfl | (simp;done) | (simp;omega),?_⟩;conv=>whnf)))
      ·exact Nat.zero_le _
      ·intro k hk;(repeat (refine gw rfl ?_;conv=>whnf));(split<;>rename_i hb<;>(try rw [hb])<;>(conv=>whnf))
       ·have hlk:k<rules.length:=(by simpa using hb);clear hb;have hmh:=hin.head rules[k] (List.getElem_mem hlk);have hgk:(rules.map enG)[((k:Nat):Int).toNat]?=some (enG rules[k]):=ay hlk;have hsc:=fun h=>Ui (m:=M+1) (str:=str) (i:=k) hlk h
        have hrl:=fun s=>RU str rules k s
        have hil:rules[k].1.toNat<str.length:=(by omega);have hsm:rkI str rules[k].1∈str:=(by rw [uy hil];exact List.getElem_mem hil);have hsb:=hs _ hsm;have hsM:=hmost.2.2 _ hsm;(repeat (refine gw rfl ?_;conv=>whnf));refine ⟨by omega,_,hgk,rfl,?_⟩;(conv=>whnf);(repeat (refine gw rfl ?_;conv=>whnf));refine ⟨hmh.1,_,OW hil,rfl,?_⟩;(conv=>whnf);refine ⟨hmh.1,_,OW hil,rfl,?_⟩;(conv=>whnf);refine ⟨⟨hsb.1,by omega⟩,?_⟩;(conv=>whnf);refine ⟨_,BG (show (rkI str rules[k].1).toNat<M+1 by omega),?_⟩;(conv=>whnf);refine ⟨rfl,?_⟩;(conv=>whnf);have hrl':=hrl (rkI str rules[k].1).toNat;refine ⟨_,by rw [List.drop_zero,List.take_length],by omega,?_⟩;(conv=>whnf);refine ⟨_,rfl,Nat.le_refl _,?_⟩;(conv=>whnf);refine ⟨by show (_+1)*56≤_;rw [List.length_map];omega,?_⟩;(conv=>whnf);refine ⟨⟨hsb.1,by omega⟩,?_⟩;(conv=>whnf);refine ⟨⟨by rw [xP];omega,rfl⟩,(qL str rules k (rkI str rules[k].1).toNat).map enG++[enG rules[k]],by rw [List.drop_zero];exact List.take_of_length_le (by simp),by simp,?_⟩;(conv=>whnf);rw [hsc hsb.1];(repeat (refine gw rfl ?_;conv=>whnf));refine ⟨by omega,?_⟩;(conv=>whnf);refine ⟨k+1,[(60,some 60),(58,some 58)],[],?_,by omega,by omega⟩;((conv=>whnf);repeat (first | exact ⟨⟩ | (refine ⟨by first | rfl | (simp;done) | (simp;omega),?_⟩;conv=>whnf)))
       ·have hke:k=rules.length:=(by simp at hb;omega);subst hke;clear hb;have hrs:∀ s,qL str rules rules.length s=rules.filter (inS str s):=fun s=>by unfold qL;rw [List.take_length]
        have hzero:(List.replicate i (-1):List Int)=jm i str rules 0:=rfl;rw [hzero];(repeat (refine gw rfl ?_;conv=>whnf));refine ⟨by omega,?_⟩;(conv=>whnf);(repeat (refine gw rfl ?_;conv=>whnf));refine WP.loop (α:=Nat) (fun k=>⟨[(1,.d (.list (str.map enI))),(7,.sl 60 1 0 i),(14,.rsl 58 (M+1)),(86,.d (.int .i64 (M+1))),(87,.d (.int .i64 k))],[((60,0),some (.arr 1 ((jm i str rules k).map enI))),((58,0),some (.rows 3 (rsD (M+1) str rules rules.length) none))],[60,58]⟩)
         (fun k=>k≤M+1∧(jm i str rules k).length=i) (fun k=>M+1-k) 0 [(60,some 60),(58,some 58)] [] ?_ ?_ ?_
        ·((conv=>whnf);repeat (first | exact ⟨⟩ | (refine ⟨by first | rfl | (simp;done) | (simp;omega),?_⟩;conv=>whnf)))
        ·exact ⟨Nat.zero_le _,by simp [jm]⟩
        ·rintro k ⟨hk,hkl⟩;have hks:jm i str rules (k+1)=fE str (k:Nat) (rules.filter (inS str k)) (i+1) 1 (jm i str rules k):=by
          unfold jm;rw [List.range_succ,List.foldl_append];rfl
         have hrowk:=hrs k;have hgetk:=fun h=>BG (m:=M+1) (str:=str) (rules:=rules) (i:=rules.length) (s:=k) h
         rw [hrowk] at hgetk;have hrm:∀ r∈rules.filter (inS str k),r∈rules:=fun r h=>(List.mem_filter.1 h).1
         have hrll:(rules.filter (inS str k)).length≤rules.length:=List.length_filter_le _ _;generalize rules.filter (inS str k)=rl at hks hgetk hrm hrll;clear hrowk;generalize hfe:jm i str rules (k+1)=fin at hks;(repeat (refine gw rfl ?_;conv=>whnf));(split<;>rename_i hb<;>(try rw [hb])<;>(conv=>whnf))
         ·have hlk:k<M+1:=(by simp at hb;omega);clear hb;(repeat (refine gw rfl ?_;conv=>whnf));refine WP.loop (α:=Int×List Int×Bool×Nat) (fun y=>⟨[(1,.d (.list (str.map enI))),(7,.sl 60 1 0 i),(14,.rsl 58 (M+1)),(86,.d (.int .i64 (M+1))),(87,.d (.int .i64 k)),(17,.d (.int .i64 (k:Nat))),(18,.d (.int .i64 y.1)),(19,.d (.bool y.2.2.1))],[((60,0),some (.arr 1 (y.2.1.map enI))),((58,0),some (.rows 3 (rsD (M+1) str rules rules.length) none))],[60,58]⟩)
           (fun y=>y.2.1.length=i∧1≤y.1∧y.1+y.2.2.2≤100∧(y.2.2.1=true→jC y.2.1<y.2.2.2∧fE str (k:Nat) rl y.2.2.2 y.1 y.2.1=fin)∧(y.2.2.1=false→y.2.1=fin)) (fun y=>y.2.2.2)
           (1,jm i str rules k,true,i+1) [(60,some 60),(58,some 58)] [] ?_ ?_ ?_
          ·((conv=>whnf);repeat (first | exact ⟨⟩ | (refine ⟨by first | rfl | (simp;done) | (simp;omega),?_⟩;conv=>whnf)))
          ·exact ⟨hkl,Int.le_refl _,by dsimp only;omega,fun _=>⟨by have:=List.length_filter_le (fun x:Int=>decide (x<0)) (jm i str rules k);unfold jC;dsimp only;omega,hks.symm⟩,fun h=>by cases h⟩
          ·rintro ⟨round,rk,ch,fuel⟩ ⟨hrk,hro1,hro2,hch,hcf⟩;dsimp only at hrk hro1 hro2 hch hcf ⊢;(repeat (refine gw rfl ?_;conv=>whnf));cases ch with
           | false=>
             have hfin:=hcf rfl;subst hfin;(conv=>whnf);(repeat (refine gw rfl ?_;conv=>whnf));refine ⟨by omega,?_⟩;(conv=>whnf);refine ⟨k+1,[(60,some 60),(58,some 58)],[],?_,⟨by omega,by rw [hfe];exact hrk⟩,by omega⟩;rw [hfe];((conv=>whnf);repeat (first | exact ⟨⟩ | (refine ⟨by first | rfl | (simp;done) | (simp;omega),?_⟩;conv=>whnf)))
           | true=>
             obtain ⟨hng,hrr⟩:=hch rfl;clear hch hcf;(conv=>whnf);(repeat (refine gw rfl ?_;conv=>whnf));have c1:=Tryz.Zo str rk (k:Nat) round;rw [hrk] at c1;refine .inr ⟨_,_,_,_,_,_,c1,[(200,60),(9,69),(5,65)],[69,65],rfl,rfl,?_⟩;(conv=>whnf);refine ⟨rfl,?_⟩;(conv=>whnf);(repeat (refine gw rfl ?_;conv=>whnf));refine ⟨⟨by omega,by omega⟩,?_⟩;rw [Int.toNat_natCast];(conv=>whnf);refine ⟨_,hgetk hlk,?_⟩;(conv=>whnf);repeat (refine gw rfl ?_;conv=>whnf)
             refine WP.loop (α:=Nat) (fun j=>⟨[(1,.d (.list (str.map enI))),(7,.sl 60 1 0 i),(14,.rsl 58 (M+1)),(86,.d (.int .i64 (M+1))),(87,.d (.int .i64 k)),(17,.d (.int .i64 (k:Nat))),(18,.d (.int .i64 round)),(19,.d (.bool ((rl.take j).foldl (eX str (k:Nat) round) (rk,false)).2)),(20,.func (.func 176) [] [.ptr 69 0,.ptr 65 0]),(101,.sl 70 3 0 rl.length),(102,.d (.int .i64 rl.length)),(103,.d (.int .i64 j))],
               [((60,0),some (.arr 1 (((rl.take j).foldl (eX str (k:Nat) round) (rk,false)).1.map enI))),((69,0),some (.cell (.func (.func 175) [] [.ptr 65 0,.d (.ref [.list (str.map enI)] 0),.d (.ref [.int .i64 (k:Nat)] 0),.d (.ref [.int .i64 round] 0)]))),((65,0),some (.cell (.sl 60 1 0 i))),((58,0),some (.rows 3 (rsD (M+1) str rules rules.length) (some (k,70)))),((70,0),some (.arr 3 (rl.map enG)))],[60,69,65,58,70]⟩)
              (fun j=>j≤rl.length) (fun j=>rl.length-j) 0 [(60,some 60),(69,some 69),(65,some 65),(58,some 58),(70,some 101)] [] ?_ ?_ ?_
             ·rw [List.length_map];((conv=>whnf);repeat (first | exact ⟨⟩ | (refine ⟨by first | rfl | (simp;done) | (simp;omega),?_⟩;conv=>whnf)))
             ·exact Nat.zero_le _
             ·intro j hj;have hql:=zD str (k:Nat) round (rl.take j) (rk,false);have hqs:=fun (h:j<rl.length)=>bn (eX str (k:Nat) round) (rk,false) rl h
              dsimp only at hql;rw [hrk] at hql;generalize hqe:((rl.take j).foldl (eX str (k:Nat) round) (rk,false))=q at hql hqs ⊢;(repeat (refine gw rfl ?_;conv=>whnf));(split<;>rename_i hb<;>(try rw [hb])<;>(conv=>whnf))
              ·have hlj:j<rl.length:=(by simpa using hb);clear hb;specialize hqs hlj;have hrmj:=hrm _ (List.getElem_mem hlj);have hgj:(rl.map enG)[j]?=some (enG rl[j]):=(by rw [List.getElem?_map,List.getElem?_eq_getElem hlj];rfl);generalize rl[j]=r at hqs hrmj hgj;have hmh:=hin.head r hrmj;have hmb:=hin.body r hrmj;have hfr:=hf r hrmj;have c2:=Tryz.aac str q.1 (k:Nat) round r (by omega) (fun x hx=>by have:=hmb.1 x hx;omega) (fun x hx=>by have:=hmb.2 x hx;omega) (by omega);rw [hql] at c2;(repeat (refine gw rfl ?_;conv=>whnf));refine ⟨⟨by omega,by omega⟩,?_⟩;rw [Int.toNat_natCast];(conv=>whnf);refine ⟨_,by rw [Nat.zero_add];exact hgj,?_⟩;(conv=>whnf);(repeat (refine gw rfl ?_;conv=>whnf));refine ⟨⟨hmh.1,by omega⟩,?_⟩;(conv=>whnf);refine ⟨_,sN (by omega),?_⟩;(conv=>whnf);have hP0:∀ b,(decide (rkI q.1 r.1<0)&&nR str q.1 (k:Nat) round r)=b→eX str (k:Nat) round q r=match b with | true=>(q.1.set r.1.toNat round,true) | false=>q:=fun b e=>by subst e;rfl
               cases hd:decide (rkI q.1 r.1<0) with
               | false=>
                 have hP:eX str (k:Nat) round q r=q:=hP0 false (by rw [hd];rfl);(conv=>whnf);(repeat (refine gw rfl ?_;conv=>whnf));refine ⟨by omega,?_⟩;(conv=>whnf);refine ⟨j+1,[(60,some 60),(69,some 69),(65,some 65),(58,some 58),(70,some 70)],[],?_,by omega,by omega⟩;rw [hqs,hP];((conv=>whnf);repeat (first | exact ⟨⟩ | (refine ⟨by first | rfl | (simp;done) | (simp;omega),?_⟩;conv=>whnf)))
               | true=>
                 (conv=>whnf);refine .inr ⟨_,_,_,_,_,_,c2,[(9,69),(5,65),(200,60)],[],rfl,rfl,?_⟩;(conv=>whnf);refine ⟨rfl,rfl,rfl,?_⟩;(conv=>whnf);cases hfi:nR str q.1 (k:Nat) round r with
                 | false=>
                   have hP:eX str (k:Nat) round q r=q:=hP0 false (by rw [hd,hfi];rfl);(conv=>whnf);(repeat (refine gw rfl ?_;conv=>whnf));refine ⟨by omega,?_⟩;(conv=>whnf);refine ⟨j+1,[(60,some 60),(69,some 69),(65,some 65),(58,some 58),(70,some 70)],[],?_,by omega,by omega⟩;rw [hqs,hP];((conv=>whnf);repeat (first | exact ⟨⟩ | (refine ⟨by first | rfl | (simp;done) | (simp;omega),?_⟩;conv=>whnf)))
                 | true=>
                   have hP:eX str (k:Nat) round q r=(q.1.set r.1.toNat round,true):=hP0 true (by rw [hd,hfi];rfl);(conv=>whnf);(repeat (refine gw rfl ?_;conv=>whnf));refine ⟨⟨hmh.1,by omega⟩,?_⟩;(conv=>whnf);refine ⟨rfl,_,sN (by omega),?_⟩;(conv=>whnf);refine .inl ⟨rfl,rfl,?_⟩;rw [Nat.zero_add,show (q.1.map enI).set r.1.toNat (.int .i64 round)=(q.1.set r.1.toNat round).map enI from List.map_set.symm];(conv=>whnf);(repeat (refine gw rfl ?_;conv=>whnf));refine ⟨by omega,?_⟩;(conv=>whnf);refine ⟨j+1,[(60,some 60),(69,some 69),(65,some 65),(58,some 58),(70,some 70)],[],?_,by omega,by omega⟩;rw [hqs,hP];((conv=>whnf);repeat (first | exact ⟨⟩ | (refine ⟨by first | rfl | (simp;done) | (simp;omega),?_⟩;conv=>whnf)))
              ·have hje:j=rl.length:=(by simp at hb;omega);subst hje;clear hb hqs;rw [List.take_length] at hqe;have hpass:nI str (k:Nat) rl round rk=q:=hqe;obtain ⟨f,rfl⟩:∃ f,fuel=f+1:=⟨fuel-1,by omega⟩
               have hrr':∀ b,q.2=b→(match b with | true=>fE str (k:Nat) rl f (round+1) q.1 | false=>q.1)=fin:=fun b e=>by
                rw [← hrr];show _=match (nI str (k:Nat) rl round rk).2 with | true=>fE str (k:Nat) rl f (round+1) (nI str (k:Nat) rl round rk).1 | false=>(nI str (k:Nat) rl round rk).1
                rw [hpass,e]
               have hqn:=(wW (str:=str) (s:=(k:Nat)) (round:=round) (by omega) (l:=rl) (q:=(rk,false)) fun r hr'=>by
                have:=hin.head r (hrm r hr')
                dsimp only;omega).2
               rw [hqe] at hqn;refine WP.back 58 70 ?_;(conv=>whnf);refine ⟨by rw [xP];omega,?_⟩;(conv=>whnf);rw [Ue (hgetk hlk)];(repeat (refine gw rfl ?_;conv=>whnf));refine ⟨by omega,?_⟩;(conv=>whnf);refine ⟨(round+1,q.1,q.2,f),[(60,some 60),(58,some 58)],[],?_,⟨hql,by dsimp only;omega,by dsimp only;omega,fun h=>⟨?_,hrr' _ h⟩,fun h=>hrr' _ h⟩,by dsimp only;omega⟩
               ·((conv=>whnf);repeat (first | exact ⟨⟩ | (refine ⟨by first | rfl | (simp;done) | (simp;omega),?_⟩;conv=>whnf)))
               ·rcases hqn h with h' | h'
                ·cases h'
                ·dsimp only at h' ⊢;omega
         ·have hke:k=M+1:=(by simp at hb;omega);subst hke;clear hb;(repeat (refine gw rfl ?_;conv=>whnf));refine ⟨[],[60],?_,rfl⟩;((conv=>whnf);repeat (first | exact ⟨⟩ | (refine ⟨by first | rfl | (simp;done) | (simp;omega),?_⟩;conv=>whnf)));refine ⟨(jm i str rules (M+1)).map enI,by rw [List.drop_zero];exact List.take_of_length_le (by rw [List.length_map];omega),by rw [List.length_map];omega,rfl,?_⟩;((conv=>whnf);repeat (first | exact ⟨⟩ | (refine ⟨by first | rfl | (simp;done) | (simp;omega),?_⟩;conv=>whnf)))
end Go.Proofs.YtdonenoiehdahaaGreat
namespace Go.Own
end Go.Own
namespace Go.Proofs.YtdonenoiehdahaaGreat
open Go Go.Abs Go.Own
attribute [local irreducible] WP
def fF (atoms:List Tm) (lv:Str→Nat):List Int:=atoms.map fun t=>ofL t.name ((nmS atoms).map fun n=>(n,((lv n:Nat):Int)))
theorem Tryz.Zl (atoms:List Tm) (rules:List Gr):aH Tryz.prog 145 [] [.d (gD atoms rules),.aG] [] [] [.d (.bool true)] []:=by
 refine aH.of_wp hT (nt:=_) (c:=_) Tryz.func145 rfl rfl rfl rfl (by kernel_rfl) rfl rfl ?_;intro w0 ok0 wr β0;repeat (refine gw rfl ?_;conv=>whnf)
 refine WP.loop (α:=Unit) (fun _=>⟨[(8,.d (.int .i64 0)),(9,.d (.int .i64 0))],[],[]⟩) (fun _=>True) (fun _=>0) () [] [] ?_ ?_ ?_
 ·((conv=>whnf);repeat (first | exact ⟨⟩ | (refine ⟨by first | rfl | (simp;done) | (simp;omega),?_⟩;conv=>whnf)))
 ·trivial
 ·rintro _ _;repeat (refine gw rfl ?_;conv=>whnf)
  refine ⟨[],[],?_,rfl⟩;((conv=>whnf);repeat (first | exact ⟨⟩ | (refine ⟨by first | rfl | (simp;done) | (simp;omega),?_⟩;conv=>whnf)))
theorem Tryz.evaluated (atoms:List Tm) (rules:List Gr) (lv:Str→Nat) (hok:∀ x∈atoms,okT x) (hfit:zJ rules) (hv:aK atoms rules=true) (hn:atoms.length≤64) (hr:rules.length≤128) (hf:∀ r∈rules,r.2.1.length+r.2.2.length≤16)
  (hlv:dK (nmS atoms) (dX atoms rules [])=some lv) (hs:∀ s∈fF atoms lv,0≤s∧s≤1000) :
  aH Tryz.prog 128 [] [.d (gD atoms rules),.aG] [] [] [.d (.list ((fF atoms lv).map enI)),.d (.list ((jF atoms.length (fF atoms lv) rules).map enI)),.d (.int .i64 0)] []:=by
 have hin:=eP hv;have hsP:=Tryz.Qg atoms rules hok hv hn hr hf;unfold strD at hsP;rw [hlv] at hsP;dsimp only at hsP;rw [show (atoms.map fun t=>D.int .i64 (ofL t.name ((nmS atoms).map fun n=>(n,((lv n:Nat):Int)))))=(fF atoms lv).map enI from by unfold fF;rw [List.map_map];rfl] at hsP;refine aH.of_wp hT (nt:=_) (c:=_) Tryz.func128 rfl rfl rfl rfl (by kernel_rfl) rfl rfl ?_;intro w0 ok0 wr β0;repeat (refine gw rfl ?_;conv=>whnf)
 refine .inl ⟨_,Tryz.Ce atoms rules hok hfit,.inl rfl,?_⟩;rw [hv];conv=>whnf
 refine .inr ⟨_,_,_,_,_,_,Tryz.Zl atoms rules,[],[],rfl,rfl,?_⟩;conv=>whnf
 repeat (refine gw rfl ?_;conv=>whnf)
 refine .inl ⟨_,hsP,.inl rfl,?_⟩;conv=>whnf
 repeat (refine gw rfl ?_;conv=>whnf)
 refine .inr ⟨_,_,_,_,_,_,Tryz.WX atoms rules (fF atoms lv) hin hn hr hf (by unfold fF;rw [List.length_map]) hs,[],[],rfl,rfl,?_⟩;conv=>whnf
 repeat (refine gw rfl ?_;conv=>whnf)
 refine ⟨[],[],?_,rfl⟩;((conv=>whnf);repeat (first | exact ⟨⟩ | (refine ⟨by first | rfl | (simp;done) | (simp;omega),?_⟩;conv=>whnf)))
theorem Tryz.YV (atoms:List Tm) (rules:List Gr) (lv:Str→Nat) (hok:∀ x∈atoms,okT x) (hfit:zJ rules) (hv:aK atoms rules=true) (hn:atoms.length≤64) (hr:rules.length≤128) (hf:∀ r∈rules,r.2.1.length+r.2.2.length≤16)
  (hlv:dK (nmS atoms) (dX atoms rules [])=some lv) (hs:∀ s∈fF atoms lv,0≤s∧s≤1000) (rk:List Int) (hrk:jF atoms.length (fF atoms lv) rules=rk) (hrl:rk.length≤64) :
  aH Tryz.prog 92 [] [.d (gD atoms rules),.aG] [] [] [.d (.list ((holdL rk rk.length).map enI)),.d (.int .i64 0)] []:=by
 have c:=Tryz.evaluated atoms rules lv hok hfit hv hn hr hf hlv hs;rw [hrk] at c;refine aH.of_wp hT (nt:=_) (c:=_) Tryz.func92 rfl rfl rfl rfl (by kernel_rfl) rfl rfl ?_;intro w0 ok0 wr β0;repeat (refine gw rfl ?_;conv=>whnf)
 refine .inr ⟨_,_,_,_,_,_,c,[],[],rfl,rfl,?_⟩;conv=>whnf
 repeat (refine gw rfl ?_;conv=>whnf)
 refine WP.loop (α:=Nat) (fun i=>⟨[(8,.d (.int .i64 0)),(9,.sl 50 1 0 (holdL rk i).length),(19,.d (.list (rk.map enI))),(20,.d (.int .i64 rk.length)),(21,.d (.int .i64 i))],[((50,0),some (.arr 1 ((holdL rk i).map enI)))],[50]⟩)
  (fun i=>i≤rk.length) (fun i=>rk.length-i) 0 [(50,none)] [] ?_ ?_ ?_
 ·rw [List.length_map];((conv=>whnf);repeat (first | exact ⟨⟩ | (refine ⟨by first | rfl | (simp;done) | (simp;omega),?_⟩;conv=>whnf)))
 ·exact Nat.zero_le _
 ·intro i hi;have hsu:=D8 rk i;have hll:=uM rk i;generalize hSe:holdL rk i=S at hsu hll ⊢;repeat (refine gw rfl ?_;conv=>whnf)
  (split<;>rename_i hb<;>(try rw [hb])<;>(conv=>whnf))
  ·have hlt:i<rk.length:=(by simpa using hb);clear hb;have hhr:∀ b,decide (rk[i]≥0)=b→JF rk i=b:=fun b e=>by subst e;unfold JF;simp [hlt]
   (repeat (refine gw rfl ?_;conv=>whnf));refine ⟨by omega,_,ay hlt,rfl,?_⟩;(conv=>whnf);(repeat (refine gw rfl ?_;conv=>whnf));cases hd:decide (rk[i]≥0) with
   | false=>
     rw [hhr _ hd] at hsu;(conv=>whnf);(repeat (refine gw rfl ?_;conv=>whnf));refine ⟨by omega,?_⟩;(conv=>whnf);refine ⟨i+1,[(50,some 50)],[],?_,by omega,by omega⟩;rw [hsu,List.append_nil];((conv=>whnf);repeat (first | exact ⟨⟩ | (refine ⟨by first | rfl | (simp;done) | (simp;omega),?_⟩;conv=>whnf)))
   | true=>
     rw [hhr _ hd] at hsu;(conv=>whnf);repeat (refine gw rfl ?_;conv=>whnf)
     (refine ⟨rfl,?_⟩;(conv=>whnf);refine ⟨_,(congrArg (List.take _) List.drop_zero).trans (List.take_of_length_le (by first | (simp;done) | (simp;omega))),by first | (simp;done) | (simp;omega),?_⟩;(conv=>whnf);refine ⟨_,rfl,Nat.le_refl _,?_⟩;(conv=>whnf);refine ⟨by show (_+1)*8≤_;first | (simp;done) | (simp;omega),?_⟩;(conv=>whnf))
     (repeat (refine gw rfl ?_;conv=>whnf));refine ⟨by omega,?_⟩;(conv=>whnf);refine ⟨i+1,[(50,some 31)],[],?_,by omega,by omega⟩;rw [hsu,List.map_append,List.map_singleton,List.length_append,List.length_singleton];((conv=>whnf);repeat (first | exact ⟨⟩ | (refine ⟨by first | rfl | (simp;done) | (simp;omega),?_⟩;conv=>whnf)))
  ·have hie:i=rk.length:=(by simp at hb;omega);subst hie;clear hb hsu;rw [hSe];(repeat (refine gw rfl ?_;conv=>whnf));refine ⟨[],[50],?_,rfl⟩;((conv=>whnf);repeat (first | exact ⟨⟩ | (refine ⟨by first | rfl | (simp;done) | (simp;omega),?_⟩;conv=>whnf)));refine ⟨S.map enI,by rw [List.drop_zero];exact List.take_of_length_le (by simp),by simp,rfl,?_⟩;((conv=>whnf);repeat (first | exact ⟨⟩ | (refine ⟨by first | rfl | (simp;done) | (simp;omega),?_⟩;conv=>whnf)))
end Go.Proofs.YtdonenoiehdahaaGreat
namespace Go.Own
theorem uY (a b:Int):aT b a=- aT a b:=by
 unfold aT;by_cases h1:a<b
 ·rw [if_pos h1,if_neg (by omega),if_pos h1];rfl
 ·by_cases h2:b<a
  ·rw [if_pos h2,if_neg h1,if_pos h2]<;>rfl
  ·rw [if_neg h2,if_neg h1,if_neg h1,if_neg h2];rfl
def Tr (p q r:Int):Prop:=p≤0→q≤0→r≤0∧(r=0→p=0∧q=0)
def lex (p q:Int):Int:=if p≠0 then p else q
theorem yh {p q p' q':Int} (h:p'=-p) (k:q'=-q):lex p' q'=- lex p q:=by
 unfold lex;by_cases e:p=0
 ·rw [if_neg (by omega),if_neg (by omega),k]
 ·rw [if_pos (by omega),if_pos e,h]
theorem Jt {p q r p' q' r':Int} (h:Tr p q r) (k:p=0→q=0→r=0→Tr p' q' r'):Tr (lex p p') (lex q q') (lex r r'):=by
 intro h1 h2;have hp:p≤0:=by unfold lex at h1;split at h1<;>omega
 have hq:q≤0:=by unfold lex at h2;split at h2<;>omega
 obtain ⟨h3,h4⟩:=h hp hq;by_cases e:r=0
 ·obtain ⟨ep,eq⟩:=h4 e;have:=k ep eq e;unfold lex at *;rw [if_neg (by omega)] at h1 h2;rw [if_neg (by omega),if_neg (by omega),if_neg (by omega)];exact this h1 h2
 ·unfold lex;rw [if_pos e];exact ⟨h3,fun h=>absurd h e⟩
theorem JZ (a b c:Int):Tr (aT a b) (aT b c) (aT a c):=by
 intro h1 h2;unfold aT at *;split at h1<;>split at h2<;>(try split at h1)<;>(try split at h2)<;>split<;>(try split)<;>(first | omega | (constructor<;>omega))
theorem IG:∀ a b:Str,eF b a=- eF a b
 | [],[]=>rfl
 | [],_::_=>rfl
 | _::_,[]=>rfl
 | a::l,b::m=>by
   unfold eF;have ih:=IG l m;by_cases h1:a<b
   ·have:¬ b<a:=fun h=>absurd (UInt8.lt_trans h h1) (UInt8.lt_irrefl _)
    rw [if_pos h1,if_neg this,if_pos h1];rfl
   ·by_cases h2:b<a
    ·rw [if_pos h2,if_neg h1,if_pos h2]<;>rfl
    ·rw [if_neg h2,if_neg h1,if_neg h1,if_neg h2];exact ih
theorem Rh:∀ a b c:Str,Tr (eF a b) (eF b c) (eF a c)
 | [],b,[]=>by cases b<;>simp [eF,Tr]
 | [],b,_::_=>by cases b<;>simp [eF,Tr]
 | _::_,[],c=>by simp [eF,Tr]
 | _::_,_::_,[]=>by intro h1 h2;simp [eF] at h2
 | a::l,b::m,c::k=>by
   have ih:=Rh l m k;intro h1 h2;simp only [eF] at h1 h2 ⊢;by_cases x1:a<b
   ·by_cases x2:b<c
    ·rw [if_pos (UInt8.lt_trans x1 x2)];exact ⟨by decide,fun h=>by cases h⟩
    ·by_cases x3:c<b
     ·rw [if_neg x2,if_pos x3] at h2;omega
     ·have:b=c:=UInt8.le_antisymm (UInt8.not_lt.1 x3) (UInt8.not_lt.1 x2);subst this;rw [if_pos x1];exact ⟨by decide,fun h=>by cases h⟩
   ·by_cases x4:b<a
    ·rw [if_neg x1,if_pos x4] at h1;omega
    ·have:a=b:=UInt8.le_antisymm (UInt8.not_lt.1 x4) (UInt8.not_lt.1 x1);subst this;rw [if_neg x1,if_neg x1] at h1;by_cases x2:a<c
     ·rw [if_pos x2];exact ⟨by decide,fun h=>by cases h⟩
     ·by_cases x3:c<a
      ·rw [if_neg x2,if_pos x3] at h2;omega
      ·rw [if_neg x2,if_neg x3] at h2;simp only [if_neg x1,if_neg x2,if_neg x3];exact ih h1 h2
def PG (a b:Tm):Int:=if aO a=0 then aT (eu a.name) (eu b.name) else lex (aT a.args.length b.args.length) (lex (eF a.name b.name) (bH a.args b.args))
theorem Xx (n m:Nat) (x:Int):(if n≠m then aT n m else x)=lex (aT n m) x:=by
 unfold lex;by_cases h:n=m
 ·rw [if_neg (fun k=>k h),if_neg (fun k=>k (fJ.2 (by omega)))]
 ·rw [if_pos h,if_pos (fun k=>h (by have:=fJ.1 k;omega))]
theorem kJ (a b:Tm):aS a b=lex (aT (aO a) (aO b)) (PG a b):=by
 rw [BR];unfold PG;rw [← Xx];rfl
theorem gu (a b:Tm) (l m:List Tm):bH (a::l) (b::m)=lex (aS a b) (bH l m):=by rw [bH];rfl
theorem E8:∀ {l m:List Tm},(∀ x∈l,∀ y,aS y x=- aS x y)→bH m l=- bH l m
 | [],[],_=>by simp [bH]
 | [],_::_,_=>by simp [bH]
 | _::_,[],_=>by simp [bH]
 | a::l,b::m,h=>by
   rw [gu,gu];exact yh (h a (by simp) b) (E8 fun x hx=>h x (by simp [hx]))
theorem lN:∀ a b:Tm,aS b a=- aS a b:=Tm.ind fun a ih b=>by
 rw [kJ,kJ];by_cases hc:aO a=aO b
 ·refine yh (uY _ _) ?_;unfold PG;by_cases h0:aO a=0
  ·rw [if_pos h0,if_pos (by omega)];exact uY _ _
  ·rw [if_neg h0,if_neg (by omega)];exact yh (uY _ _) (yh (IG _ _) (E8 ih))
 ·have:=uY (aO a) (aO b);have h1:aT (aO a) (aO b)≠0:=fun h=>hc (fJ.1 h)
  unfold lex;rw [if_pos h1,if_pos (by omega),this]
theorem Nr:∀ {l m k:List Tm},(∀ x∈l,∀ y z,Tr (aS x y) (aS y z) (aS x z))→Tr (bH l m) (bH m k) (bH l k)
 | [],m,[],_=>by cases m<;>simp [bH,Tr]
 | [],m,_::_,_=>by cases m<;>simp [bH,Tr]
 | _::_,[],k,_=>by intro h;simp [bH] at h
 | _::_,_::_,[],_=>by intro _ h;simp [bH] at h
 | a::l,b::m,c::k,h=>by
   rw [gu,gu,gu];exact Jt (h a (by simp) b c) fun _ _ _=>Nr fun x hx=>h x (by simp [hx])
theorem JY:∀ a b c:Tm,Tr (aS a b) (aS b c) (aS a c):=Tm.ind fun a ih b c=>by
 rw [kJ,kJ,kJ];refine Jt (JZ _ _ _) fun h1 h2 _=>?_
 have e1:=fJ.1 h1;have e2:=fJ.1 h2;unfold PG;by_cases h0:aO a=0
 ·rw [if_pos h0,if_pos h0,if_pos (by omega)];exact JZ _ _ _
 ·rw [if_neg h0,if_neg h0,if_neg (by omega)];exact Jt (JZ _ _ _) fun _ _ _=>Jt (Rh _ _ _) fun _ _ _=>Nr ih
theorem lM (a:Tm):aS a a=0:=by have:=lN a a;omega
theorem X7 {a b c:Tm} (h:aS a b<0) (k:aS b c<0):aS a c<0:=by
 obtain ⟨h1,h2⟩:=JY a b c (by omega) (by omega);rcases Int.lt_or_eq_of_le h1 with h3 | h3
 ·exact h3
 ·have:=(h2 h3).1;omega
theorem Ns {a b r:Tm} (h:aS a r=0) (k:aS b r=0):aS a b=0:=by
 have h1:=lN b r;have h2:=(JY a r b (by omega) (by omega)).1;have h3:=lN a r;have h4:=(JY b r a (by omega) (by omega)).1;have h5:=lN a b;omega
theorem ZC {l:List Tm} (h:∀ i (hi:i+1<l.length),aS l[i] l[i+1]<0):l.Pairwise fun a b=>aS a b<0:=by
 rw [List.pairwise_iff_getElem];intro i j hi hj hij
 induction j with
 | zero=>omega
 | succ j ih=>
   by_cases e:i=j
   ·subst e;exact h i hj
   ·exact X7 (ih (by omega) (by omega)) (h j hj)
theorem jO {atoms:List Tm} {rules:List Gr} (h:aK atoms rules=true):atoms.Pairwise fun a b=>aS a b<0:=by
 unfold aK iR at h;simp only [Bool.and_eq_true] at h;refine ZC fun i hi=>?_
 have h1:=(jo.1 h.1.1.2) (i+1) hi;rw [jP hi,fQ hi] at h1;simp only [Bool.and_eq_true] at h1;exact of_decide_eq_true h1.2
theorem Nz {atoms:List Tm} {rules:List Gr} (h:aK atoms rules=true):∀ t∈atoms,eG false 4 t=true∧nameB t.name=true:=fun t ht=>by
 unfold aK iR at h;simp only [Bool.and_eq_true] at h;obtain ⟨i,hi,rfl⟩:=List.mem_iff_getElem.1 ht;have h1:=(jo.1 h.1.1.2) i hi;rw [jP hi] at h1;unfold nX at h1;simp only [Bool.and_eq_true] at h1;exact ⟨h1.1.1.1,h1.1.1.2⟩
mutual
def eqT:Tm→Tm→Bool
 | .mk n l,.mk m k=>n==m&&xu l k
def xu:List Tm→List Tm→Bool
 | [],[]=>true
 | a::l,b::m=>eqT a b&&xu l m
 | _,_=>false
end
theorem VF (a b:Tm):eqT a b=(a.name==b.name&&xu a.args b.args):=by
 obtain ⟨n,l⟩:=a;obtain ⟨m,k⟩:=b;rw [eqT];rfl
theorem JV:∀ {l m:List Tm},(∀ x∈l,∀ y,eqT x y=true↔x=y)→(xu l m=true↔l=m)
 | [],[],_=>by simp [xu]
 | [],_::_,_=>by simp [xu]
 | _::_,[],_=>by simp [xu]
 | a::l,b::m,h=>by
   rw [xu,Bool.and_eq_true,h a (by simp),JV fun x hx=>h x (by simp [hx]),List.cons.injEq]
theorem jA:∀ a b:Tm,eqT a b=true↔a=b:=Tm.ind fun a ih b=>by
 rw [VF,Bool.and_eq_true,JV ih];obtain ⟨n,l⟩:=a;obtain ⟨m,k⟩:=b;simp [Tm.name,Tm.args]
theorem EP {l m:List Tm}:xu l m=true↔l=m:=JV fun x _=>jA x
theorem VE:∀ {l m:List Tm},l.length≠m.length→xu l m=false:=fun {l m} h=>by
 cases he:xu l m with
 | false=>rfl
 | true=>rw [EP.1 he] at h;exact absurd rfl h
theorem Zv {l m:List Tm} {i:Nat} (hi:i<l.length) (hj:i<m.length) (h:eqT l[i] m[i]=false):xu l m=false:=by
 cases he:xu l m with
 | false=>rfl
 | true=>
   have:=EP.1 he;subst this;rw [(jA _ _).2 rfl] at h;cases h
theorem Zu {l m:List Tm} (hl:l.length=m.length) (h:∀ i (hi:i<l.length) (hj:i<m.length),eqT l[i] m[i]=true):xu l m=true:=
 EP.2 (List.ext_getElem hl fun i h1 h2=>(jA _ _).1 (h i h1 h2))
end Go.Own
namespace Go.Proofs.YtdonenoiehdahaaGreat
open Go Go.Abs Go.Own
attribute [local irreducible] WP
def EqR (x:Tm):Prop:=∀ y:Tm,okT x→okT y→Pure Tryz.prog 20 [tD x.name x.args,tD y.name y.args] [.bool (eqT x y)]
theorem Tryz.WG (l m:List Tm) (hl:l.length≤9223372036854775807) (ok1:∀ x∈l,okT x) (ok2:∀ x∈m,okT x) (h:∀ x∈l,EqR x):Pure Tryz.prog 49 [.list (l.map enT),.list (m.map enT)] [.bool (xu l m)]:=by
 refine Pure.of_wp hT (nt:=_) (c:=_) Tryz.func49 rfl rfl rfl rfl (by kernel_rfl) ?_;intro w0 ok0 β0;repeat (refine gw rfl ?_;conv=>whnf)
 rw [List.length_map,List.length_map];by_cases he:l.length=m.length
 ·rw [show (((l.length:Nat):Int) != ((m.length:Nat):Int))=false by rw [he];simp];conv=>whnf
  repeat (refine gw rfl ?_;conv=>whnf)
  refine WP.loop (α:=Nat) (fun i=>⟨[(0,.d (.list (l.map enT))),(1,.d (.list (m.map enT))),(12,.d (.int .i64 l.length)),(13,.d (.int .i64 i))],[],[]⟩) (fun i=>i≤l.length∧∀ j (hj:j<i) (h1:j<l.length) (h2:j<m.length),eqT l[j] m[j]=true) (fun i=>l.length-i) 0 [] [] ?_ ?_ ?_
  ·rw [List.length_map];((conv=>whnf);repeat (first | exact ⟨⟩ | (refine ⟨by first | rfl | (simp;done) | (simp;omega),?_⟩;conv=>whnf)))
  ·exact ⟨Nat.zero_le _,fun j hj=>by omega⟩
  ·rintro i ⟨hi,ht⟩;(repeat (refine gw rfl ?_;conv=>whnf));(split<;>rename_i hb<;>(try rw [hb])<;>(conv=>whnf))
   ·have hlt:i<l.length:=(by simpa using hb);have hlm:i<m.length:=(by omega);clear hb;(repeat (refine gw rfl ?_;conv=>whnf));refine ⟨by omega,_,dB hlt,rfl,?_⟩;(conv=>whnf);refine ⟨by omega,_,dB hlm,rfl,?_⟩;(conv=>whnf);refine .inl ⟨_,h _ (List.getElem_mem hlt) m[i] (ok1 _ (List.getElem_mem hlt)) (ok2 _ (List.getElem_mem hlm)),.inl rfl,?_⟩;(conv=>whnf);cases hq:eqT l[i] m[i] with
    | false=>
      (repeat (refine gw rfl ?_;conv=>whnf));rw [Zv hlt hlm hq]
    | true=>
      (repeat (refine gw rfl ?_;conv=>whnf));refine ⟨by omega,?_⟩;(conv=>whnf);refine ⟨i+1,[],[],?_,⟨by omega,fun j hj h1 h2=>?_⟩,by omega⟩
      ·((conv=>whnf);repeat (first | exact ⟨⟩ | (refine ⟨by first | rfl | (simp;done) | (simp;omega),?_⟩;conv=>whnf)))
      ·rcases Nat.lt_or_ge j i with hji | hji
       ·exact ht j hji h1 h2
       ·obtain rfl:j=i:=by omega
        exact hq
   ·have:i=l.length:=(by simp at hb;omega);subst this;rw [Zu he fun j h1 h2=>ht j h1 h1 h2];repeat (refine gw rfl ?_;conv=>whnf)
 ·rw [show (((l.length:Nat):Int) != ((m.length:Nat):Int))=true by simp;omega,VE he];conv=>whnf
  repeat (refine gw rfl ?_;conv=>whnf)
theorem Tryz.I7:∀ x:Tm,EqR x:=Tm.ind fun x ih y okx oky=>by
 have hl:=Tryz.WG x.args y.args (aW.1 okx).1 (aW.1 okx).2 (aW.1 oky).2 ih;rw [VF];clear ih okx oky;generalize x.name=n at *;generalize x.args=l at *;generalize y.name=m at *;generalize y.args=k at *;refine Pure.of_wp hT (nt:=_) (c:=_) Tryz.func20 rfl rfl rfl rfl (by kernel_rfl) ?_;intro w0 ok0 β0;repeat (refine gw rfl ?_;conv=>whnf)
 cases n==m with
 | false=>
   (conv=>whnf);(repeat (refine gw rfl ?_;conv=>whnf));rfl
 | true=>
   (conv=>whnf);(repeat (refine gw rfl ?_;conv=>whnf));refine .inl ⟨_,hl,.inl rfl,?_⟩;(conv=>whnf);(repeat (refine gw rfl ?_;conv=>whnf));rfl
theorem Vd {l:List In} {i:Nat} (h:i<l.length):(l.map iq)[((i:Int)).toNat]?=some (.agg [.int .i64 (l[i].1:Nat),.str l[i].2.name,.list (l[i].2.args.map enT)]):=ay h
theorem Hr {l:List Ot} {i:Nat} (h:i<l.length):(l.map aV)[((i:Int)).toNat]?=some (.agg [.int .i64 (l[i].1:Nat),.int .i64 l[i].2.1,.str l[i].2.2.1.name,.list (l[i].2.2.1.args.map enT),.int .i64 l[i].2.2.2]):=ay h
end Go.Proofs.YtdonenoiehdahaaGreat
namespace Go.Own
def dgN (a:UInt8):Prop:=48≤(a.toNat:Int)∧(a.toNat:Int)≤57
inductive Shp:Str→Int→Prop
 | one (a:UInt8) (ha:dgN a):Shp [a] ((a.toNat:Int)-48)
 | two (a b:UInt8) (ha:dgN a) (hb:dgN b) (h0:(a.toNat:Int)≠48):Shp [a,b] (10*((a.toNat:Int)-48)+((b.toNat:Int)-48))
 | three (a b c:UInt8) (ha:dgN a) (hb:dgN b) (hc:dgN c) (h0:(a.toNat:Int)≠48):Shp [a,b,c] (10*(10*((a.toNat:Int)-48)+((b.toNat:Int)-48))+((c.toNat:Int)-48))
 | four (a b c d:UInt8) (ha:dgN a) (hb:dgN b) (hc:dgN c) (hd:dgN d) (h0:(a.toNat:Int)≠48):Shp [a,b,c,d] (10*(10*(10*((a.toNat:Int)-48)+((b.toNat:Int)-48))+((c.toNat:Int)-48))+((d.toNat:Int)-48))
theorem Ud {s:Str} (h:bF s=true):Shp s (eu s):=by
 have hv:eu s=numAt 0 s:=by unfold eu;rw [if_pos h]
 rw [hv];unfold bF at h;simp only [Bool.and_eq_true,decide_eq_true_eq] at h;obtain ⟨⟨⟨h1,h2⟩,h3⟩,h4⟩:=h
 match s,h1,h2,h3,h4 with
 | [],h1,_,_,_=>simp at h1
 | [a],_,_,_,h4=>
   simp only [List.all_cons,List.all_nil,Bool.and_true,kH] at h4;have:=Shp.one a h4
   simpa [numAt] using this
 | [a,b],_,_,h3,h4=>
   simp only [List.all_cons,List.all_nil,Bool.and_true,Bool.and_eq_true,kH] at h4;have h0:(a.toNat:Int)≠48:=(by simpa [headB] using h3);have:=Shp.two a b h4.1 h4.2 h0
   simpa [numAt] using this
 | [a,b,c],_,_,h3,h4=>
   simp only [List.all_cons,List.all_nil,Bool.and_true,Bool.and_eq_true,kH] at h4;have h0:(a.toNat:Int)≠48:=(by simpa [headB] using h3);have:=Shp.three a b c h4.1 h4.2.1 h4.2.2 h0
   simpa [numAt] using this
 | [a,b,c,d],_,_,h3,h4=>
   simp only [List.all_cons,List.all_nil,Bool.and_true,Bool.and_eq_true,kH] at h4;have h0:(a.toNat:Int)≠48:=(by simpa [headB] using h3);have:=Shp.four a b c d h4.1 h4.2.1 h4.2.2.1 h4.2.2.2 h0
   simpa [numAt] using this
 | _::_::_::_::_::_,_,h2,_,_=>simp at h2
theorem YH {a b:UInt8} (h:(a.toNat:Int)=b.toNat):a=b:=UInt8.toNat_inj.1 (by omega)
theorem WQ {s t:Str} {n m:Int} (h:Shp s n) (k:Shp t m) (e:n=m):s=t:=by
 cases h<;>cases k<;>(unfold dgN at *)<;>first
  | (exfalso;omega)
  | (simp only [List.cons.injEq,and_true];(repeat' apply And.intro)<;>exact YH (by omega))
theorem Lu {s t:Str} (hs:bF s=true) (ht:bF t=true) (h:eu s=eu t):s=t:=WQ (Ud hs) (Ud ht) h
def Grd (t:Tm):Prop:=∃ k,eG false k t=true
theorem Grd.arg {t x:Tm} (h:Grd t) (hx:x∈t.args):Grd x:=by
 obtain ⟨k,h⟩:=h;cases k with
 | zero=>cases t;simp [eG] at h
 | succ k=>
   rw [xE] at h;split at h
   ·split at h
    ·rename_i h0;rw [List.length_eq_zero_iff.1 h0] at hx;cases hx
    ·simp only [Bool.and_eq_true,List.all_eq_true] at h;exact ⟨k,h.1 x hx⟩
   ·cases h
theorem EZ:∀ {l m:List Tm},(∀ x∈l,∀ y∈m,aS x y=0→x=y)→bH l m=0→l=m
 | [],[],_,_=>rfl
 | [],_::_,_,h=>by simp [bH] at h
 | _::_,[],_,h=>by simp [bH] at h
 | a::l,b::m,h,e=>by
   rw [gu] at e;unfold lex at e;by_cases h0:aS a b=0
   ·rw [if_neg (fun k=>k h0)] at e;rw [h a (by simp) b (by simp) h0,EZ (fun x hx y hy=>h x (by simp [hx]) y (by simp [hy])) e]
   ·rw [if_pos h0] at e;exact absurd e h0
theorem Tm.ext {t u:Tm} (h:t.name=u.name) (k:t.args=u.args):t=u:=by
 obtain ⟨n,l⟩:=t;obtain ⟨m,j⟩:=u;simp only [Tm.name,Tm.args] at h k;rw [h,k]
theorem DX {p q:Int} (h:lex p q=0):p=0∧q=0:=by
 unfold lex at h;split at h<;>omega
theorem IE:∀ t u:Tm,Grd t→Grd u→aS t u=0→t=u:=Tm.ind fun t ih u ht hu h=>by
 rw [kJ] at h;obtain ⟨h1,h2⟩:=DX h;have hc:=fJ.1 h1;unfold PG at h2;by_cases h0:aO t=0
 ·rw [if_pos h0] at h2;have e:=fJ.1 h2;have n0:∀ v:Tm,aO v=0→v.args.length=0∧bF v.name=true:=fun v hv=>by
   unfold aO at hv;split at hv
   ·rename_i hl;split at hv
    ·rename_i hk;exact ⟨hl,hk⟩
    ·split at hv<;>cases hv
   ·cases hv
  obtain ⟨l1,k1⟩:=n0 t h0;obtain ⟨l2,k2⟩:=n0 u (by omega);exact Tm.ext (Lu k1 k2 e) (by rw [List.length_eq_zero_iff.1 l1,List.length_eq_zero_iff.1 l2])
 ·rw [if_neg h0] at h2;obtain ⟨h3,h4⟩:=DX h2;obtain ⟨h5,h6⟩:=DX h4;exact Tm.ext (Go.Proofs.YtdonenoiehdahaaGreat.nU.1 h5) (EZ (fun x hx y hy=>ih x hx y (ht.arg hx) (hu.arg hy)) h6)
def zn (u:Tm):Int→List Tm→Int
 | _,[]=>-1
 | i,t::l=>if eqT t u=true then i else zn u (i+1) l
end Go.Own
namespace Go.Proofs.YtdonenoiehdahaaGreat
open Go.Own
theorem Qs {u:Tm} (hu:Grd u):∀ {l:List Tm} {i:Int},(∀ t∈l,Grd t)→zn u i l=dM u i l
 | [],i,_=>rfl
 | t::l,i,h=>by
   unfold zn dM;have ht:=h t (by simp);by_cases e:aS t u=0
   ·rw [if_pos e,if_pos ((jA _ _).2 (IE t u ht hu e))]
   ·rw [if_neg e,if_neg (fun k=>e (by rw [(jA _ _).1 k];exact lM u)),Qs hu fun t ht=>h t (by simp [ht])]
end Go.Proofs.YtdonenoiehdahaaGreat
