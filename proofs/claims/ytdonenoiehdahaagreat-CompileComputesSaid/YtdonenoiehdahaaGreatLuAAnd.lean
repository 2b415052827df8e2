/- Plain laws: what the ranks say: supported, closed. -/
import Derived.Test.YtdonenoiehdahaaGreatLtBAnd
import Derived.Test.YtdonenoiehdahaaGreatLsXAnd
set_option linter.all false
namespace Go.Proofs.YtdonenoiehdahaaGreat
open Go Go.Abs Go.Own
theorem Qn {rk:List Int} {h:Int} {v n:Int} (h0:0≤h) (hl:h.toNat<rk.length) (n0:0≤n):rkI (rk.set h.toNat v) n=if n=h then v else rkI rk n:=by
 unfold rkI;rw [List.getD_eq_getElem?_getD,List.getD_eq_getElem?_getD];by_cases e:n=h
 ·subst e;rw [List.getElem?_set_self hl,if_pos rfl];rfl
 ·rw [List.getElem?_set_ne (fun k=>e (by omega)),if_neg e]
structure xC (n:Nat) (str:List Int) (rules:List Gr):Prop where
 len:str.length=n
 head:∀ r∈rules,0≤r.1∧r.1.toNat<n
 pos:∀ r∈rules,∀ x∈r.2.1,0≤x∧x.toNat<n∧rkI str x≤rkI str r.1
 neg:∀ r∈rules,∀ x∈r.2.2,0≤x∧x.toNat<n∧rkI str x<rkI str r.1
def Why (str rk:List Int) (rules:List Gr) (a:Int):Prop:=∃ r∈rules,r.1=a∧(∀ x∈r.2.1,0≤rkI rk x∧(rkI str x<rkI str a∨rkI rk x<rkI rk a))∧∀ x∈r.2.2,rkI rk x<0
structure Stg (n:Nat) (str:List Int) (rules:List Gr) (facts:List Int) (s:Int) (round:Int) (rk:List Int):Prop where
 len:rk.length=n
 sup:∀ a,0≤a→a.toNat<n→0≤rkI rk a→a∈facts∨(rkI str a≤s∧Why str rk rules a)
 fac:∀ a∈facts,0≤rkI rk a
 low:∀ a,0≤a→a.toNat<n→rkI str a=s→rkI rk a<round
 abv:∀ a,0≤a→a.toNat<n→s<rkI str a→rkI rk a≤0
 done:∀ r∈rules,rkI str r.1<s→(∀ x∈r.2.1,0≤rkI rk x)→(∀ x∈r.2.2,rkI rk x<0)→0≤rkI rk r.1
variable {n:Nat} {str:List Int} {rules:List Gr} {facts:List Int} {s round:Int}
structure Mid (n:Nat) (str:List Int) (rules:List Gr) (facts:List Int) (s:Int) (round:Int) (rk:List Int):Prop where
 len:rk.length=n
 sup:∀ a,0≤a→a.toNat<n→0≤rkI rk a→a∈facts∨(rkI str a≤s∧Why str rk rules a)
 fac:∀ a∈facts,0≤rkI rk a
 low:∀ a,0≤a→a.toNat<n→rkI str a=s→rkI rk a≤round
 abv:∀ a,0≤a→a.toNat<n→s<rkI str a→rkI rk a≤0
 done:∀ r∈rules,rkI str r.1<s→(∀ x∈r.2.1,0≤rkI rk x)→(∀ x∈r.2.2,rkI rk x<0)→0≤rkI rk r.1
theorem Mid.step (hf:xC n str rules) (hr:1≤round) {q:List Int×Bool} (h:Mid n str rules facts s round q.1) {r:Gr} (hm:r∈rules) (hs:rkI str r.1=s):Mid n str rules facts s round (eX str s round q r).1:=by
 unfold eX;cases hb:decide (rkI q.1 r.1<0)&&nR str q.1 s round r with
 | false=>exact h
 | true=>
   simp only [Bool.and_eq_true,decide_eq_true_eq] at hb;obtain ⟨h1,h2⟩:=hb;obtain ⟨g1,g2⟩:=hf.head r hm;have hset:=fun x (h0:0≤x)=>Qn (rk:=q.1) (v:=round) g1 (by rw [h.len];exact g2) h0
   dsimp only;have keep:∀ x,0≤x→0≤rkI q.1 x→rkI (q.1.set r.1.toNat round) x=rkI q.1 x:=fun x h0 hx=>by
    rw [hset x h0,if_neg (fun e=>by rw [e] at hx;omega)]
   have whyk:∀ a,0≤rkI q.1 a→0≤a→rkI str a≤s→Why str q.1 rules a→Why str (q.1.set r.1.toNat round) rules a:=fun a ha h0 hle hw=>by
    obtain ⟨r',hm',e,p1,p2⟩:=hw;refine ⟨r',hm',e,fun x hx=>?_,fun x hx=>?_⟩
    ·obtain ⟨x0,_,_⟩:=hf.pos r' hm' x hx;rw [keep x x0 (p1 x hx).1,keep a h0 ha];exact p1 x hx
    ·obtain ⟨x0,_,xl⟩:=hf.neg r' hm' x hx;rw [e] at xl;rw [hset x x0,if_neg (fun e'=>by rw [e'] at xl;omega)];exact p2 x hx
   refine ⟨by rw [List.length_set];exact h.len,fun a h0 hn ha=>?_,fun a ha=>?_,fun a h0 hn ha=>?_,fun a h0 hn ha=>?_,fun r' hm' hlt p1 p2=>?_⟩
   ·by_cases e:a=r.1
    ·right;subst e;refine ⟨by omega,r,hm,rfl,?_,?_⟩
     all_goals
      unfold nR at h2;simp only [Bool.and_eq_true,List.all_eq_true] at h2
     ·intro x hx;obtain ⟨x0,_,xl⟩:=hf.pos r hm x hx;have h3:=h2.1 x hx;unfold holdsB at h3;simp only [Bool.and_eq_true,Bool.or_eq_true,decide_eq_true_eq] at h3;rw [keep x x0 h3.1,hset r.1 g1,if_pos rfl];exact ⟨h3.1,h3.2.imp (fun h=>by omega) id⟩
     ·intro x hx;obtain ⟨x0,_,xl⟩:=hf.neg r hm x hx;have h3:=of_decide_eq_true (h2.2 x hx);rw [hset x x0,if_neg (fun e'=>by rw [e'] at xl;omega)];exact h3
    ·rw [hset a h0,if_neg e] at ha;rcases h.sup a h0 hn ha with h3 | ⟨h3,h4⟩
     ·exact .inl h3
     ·exact .inr ⟨h3,whyk a ha h0 h3 h4⟩
   ·have:=h.fac a ha;by_cases ha0:0≤a
    ·rw [keep a ha0 this];exact this
    ·have:rkI (q.1.set r.1.toNat round) a=if a.toNat=r.1.toNat then round else rkI q.1 a:=by
      unfold rkI;rw [List.getD_eq_getElem?_getD,List.getD_eq_getElem?_getD];by_cases e:a.toNat=r.1.toNat
      ·rw [if_pos e,e,List.getElem?_set_self (by rw [h.len];exact g2)];rfl
      ·rw [if_neg e,List.getElem?_set_ne (fun k=>e k.symm)]
     rw [this];split
     ·omega
     ·assumption
   ·rw [hset a h0];split
    ·exact Int.le_refl _
    ·exact h.low a h0 hn ha
   ·rw [hset a h0,if_neg (fun e=>by rw [e] at ha;omega)];exact h.abv a h0 hn ha
   ·have hd:=h.done r' hm' hlt (fun x hx=>?_) (fun x hx=>?_)
    ·rw [keep _ (hf.head r' hm').1 hd];exact hd
    ·obtain ⟨x0,_,xl⟩:=hf.pos r' hm' x hx;have:=p1 x hx
     rwa [hset x x0,if_neg (fun e=>by rw [e] at xl;omega)] at this
    ·obtain ⟨x0,_,xl⟩:=hf.neg r' hm' x hx;have:=p2 x hx
     rwa [hset x x0,if_neg (fun e=>by rw [e] at xl;omega)] at this
theorem Mid.fold (hf:xC n str rules) (hr:1≤round):∀ {l:List Gr} {q:List Int×Bool},(∀ r∈l,r∈rules∧rkI str r.1=s)→Mid n str rules facts s round q.1→Mid n str rules facts s round (l.foldl (eX str s round) q).1
 | [],_,_,h=>h
 | r::l,q,hl,h=>by
   rw [List.foldl_cons];exact Mid.fold hf hr (fun x hx=>hl x (by simp [hx])) (h.step hf hr (hl r (by simp)).1 (hl r (by simp)).2)
theorem En {str:List Int} {s round:Int}:∀ {l:List Gr} {q:List Int×Bool},(l.foldl (eX str s round) q).2=false→(l.foldl (eX str s round) q).1=q.1∧q.2=false∧∀ r∈l,(decide (rkI q.1 r.1<0)&&nR str q.1 s round r)=false
 | [],q,h=>⟨rfl,h,fun r hr=>by cases hr⟩
 | r::l,q,h=>by
   rw [List.foldl_cons] at h ⊢;obtain ⟨h1,h2,h3⟩:=En (l:=l) h;unfold eX at h1 h2 h3;cases hb:decide (rkI q.1 r.1<0)&&nR str q.1 s round r with
   | true=>rw [hb] at h2;cases h2
   | false=>
     rw [hb] at h1 h2 h3;unfold eX;rw [hb]
     exact ⟨h1,h2,fun x hx=>by
      rcases List.mem_cons.1 hx with rfl | hx
      ·exact hb
      ·exact h3 x hx⟩
theorem Stg.rounds (hf:xC n str rules) {l:List Gr} (hl:∀ r,r∈l↔r∈rules∧rkI str r.1=s):∀ {f:Nat} {round:Int} {rk:List Int},1≤round→jC rk<f→Stg n str rules facts s round rk→∃ round',Stg n str rules facts (s+1) round' (fE str s l f round rk)∧∀ a,0≤a→a.toNat<n→rkI str a=s+1→rkI (fE str s l f round rk) a≤0
 | 0,_,_,_,h,_=>by omega
 | f+1,round,rk,hr,hn,h=>by
   unfold fE;have hm:Mid n str rules facts s round (nI str s l round rk).1:=Mid.fold hf hr (fun r hr=>(hl r).1 hr) ⟨h.len,h.sup,h.fac,fun a h0 h1 h2=>Int.le_of_lt (h.low a h0 h1 h2),h.abv,h.done⟩;have hng:=wW (str:=str) (s:=s) (round:=round) (by omega) (l:=l) (q:=(rk,false)) fun r hr=>by
    have:=(hf.head r ((hl r).1 hr).1).2;rw [show ((rk,false):List Int×Bool).1=rk from rfl,h.len];exact this
   cases hc:(nI str s l round rk).2 with
   | true=>
     have hlt:jC (nI str s l round rk).1<jC rk:=by
      rcases hng.2 hc with h1 | h1
      ·cases h1
      ·exact h1
     exact Stg.rounds hf hl (f:=f) (by omega) (by omega) ⟨hm.len,hm.sup,hm.fac,fun a h0 h1 h2=>by have:=hm.low a h0 h1 h2;omega,hm.abv,hm.done⟩
   | false=>
     obtain ⟨h1,_,h3⟩:=En (str:=str) (s:=s) (round:=round) (l:=l) (q:=(rk,false)) hc;rw [show (nI str s l round rk).1=rk from h1];dsimp only;refine ⟨1,⟨h.len,fun a h0 hn' ha=>(h.sup a h0 hn' ha).imp id fun ⟨p,q⟩=>⟨by omega,q⟩,h.fac,fun a h0 hn' ha=>?_,fun a h0 hn' ha=>h.abv a h0 hn' (by omega),fun r hm' hlt p1 p2=>?_⟩,fun a h0 hn' ha=>h.abv a h0 hn' (by omega)⟩
     ·have:=h.abv a h0 hn' (by omega);omega
     ·by_cases e:rkI str r.1=s
      ·have h4:=h3 r ((hl r).2 ⟨hm',e⟩);rw [Bool.and_eq_false_iff] at h4;rcases h4 with h4 | h4
       ·have:=of_decide_eq_false h4;dsimp only at this;omega
       ·exfalso;unfold nR at h4;rw [Bool.and_eq_false_iff] at h4;rcases h4 with h4 | h4
        ·rw [List.all_eq_false] at h4;obtain ⟨x,hx,hh⟩:=h4;obtain ⟨x0,xn,xl⟩:=hf.pos r hm' x hx;have hp:=p1 x hx;apply hh;unfold holdsB;rw [Bool.and_eq_true,Bool.or_eq_true,decide_eq_true_eq,decide_eq_true_eq,decide_eq_true_eq];refine ⟨hp,?_⟩;by_cases es:rkI str x=s
         ·exact .inr (h.low x x0 xn es)
         ·exact .inl (by omega)
        ·rw [List.all_eq_false] at h4;obtain ⟨x,hx,hh⟩:=h4;have:=p2 x hx;exact hh (decide_eq_true this)
      ·exact h.done r hm' (by omega) p1 p2
structure mP (n:Nat) (str:List Int) (rules:List Gr) (facts:List Int) (rk:List Int):Prop where
 len:rk.length=n
 sup:∀ a,0≤a→a.toNat<n→0≤rkI rk a→a∈facts∨Why str rk rules a
 fac:∀ a∈facts,0≤rkI rk a
 cls:∀ r∈rules,(∀ x∈r.2.1,0≤rkI rk x)→(∀ x∈r.2.2,rkI rk x<0)→0≤rkI rk r.1
theorem Jd {n:Nat} {facts:List Int} (hf:∀ a∈facts,0≤a∧a.toNat<n) (a:Int) (h0:0≤a) (hn:a.toNat<n):rkI (Oo n facts) a=if a∈facts then 0 else -1:=by
 have key:∀ (l:List Int) (rk:List Int),(∀ x∈l,0≤x∧x.toNat<rk.length)→rkI (l.foldl yX rk) a=if a∈l then 0 else rkI rk a:=fun l=>by
  induction l with
  | nil=>intro rk _;simp
  | cons x l ih=>
    intro rk hx;obtain ⟨x0,xn⟩:=hx x (by simp);rw [List.foldl_cons,ih _ (fun y hy=>by rw [show (yX rk x).length=rk.length from by simp [yX]];exact hx y (by simp [hy]))];by_cases e:a∈l
    ·rw [if_pos e,if_pos (by simp [e])]
    ·rw [if_neg e];unfold yX;rw [Qn x0 xn h0];by_cases e2:a=x
     ·rw [if_pos e2,if_pos (by simp [e2])]
     ·rw [if_neg e2,if_neg (by simp [e,e2])]
 unfold Oo;rw [key facts _ (fun x hx=>by rw [List.length_replicate];exact hf x hx)];split
 ·rfl
 ·unfold rkI;rw [List.getD_eq_getElem?_getD,List.getElem?_replicate_of_lt hn];rfl
theorem Stg.start (hf:∀ a∈facts,0≤a∧a.toNat<n) (hs:∀ a,0≤a→a.toNat<n→0≤rkI str a) (hr:∀ r∈rules,0≤r.1∧r.1.toNat<n):Stg n str rules facts 0 1 (Oo n facts) where
 len:=KZ n facts
 sup a h0 hn ha:=by
  rw [Jd hf a h0 hn] at ha;split at ha
  ·left;assumption
  ·omega
 fac a ha:=by
  obtain ⟨h0,hn⟩:=hf a ha;rw [Jd hf a h0 hn,if_pos ha];exact Int.le_refl _
 low a h0 hn _:=by rw [Jd hf a h0 hn];split<;>omega
 abv a h0 hn _:=by rw [Jd hf a h0 hn];split<;>omega
 done r hr' hlt:=by have:=hs _ (hr r hr').1 (hr r hr').2;omega
theorem YQ (hf:xC n str rules) (hfa:∀ a∈facts,0≤a∧a.toNat<n) (hs:∀ a,0≤a→a.toNat<n→0≤rkI str a) {k:Nat} (hk:∀ a,0≤a→a.toNat<n→rkI str a<(k:Nat)):mP n str rules facts (rW n str rules facts k):=by
 have key:∀ j:Nat,Stg n str rules facts ((j:Nat):Int) 1 (rW n str rules facts j):=fun j=>by
  induction j with
  | zero=>exact Stg.start hfa hs hf.head
  | succ j ih=>
    have e:rW n str rules facts (j+1)=fE str (j:Nat) (rules.filter (inS str j)) (n+1) 1 (rW n str rules facts j):=by
     unfold rW;rw [List.range_succ,List.foldl_append];rfl
    rw [e]
    obtain ⟨r',h1,h2⟩:=Stg.rounds hf (l:=rules.filter (inS str j)) (fun r=>by rw [List.mem_filter];unfold inS;rw [decide_eq_true_eq]) (f:=n+1) (Int.le_refl 1) (by
     have:=List.length_filter_le (fun x:Int=>decide (x<0)) (rW n str rules facts j);rw [ih.len] at this
     unfold jC;omega) ih
    exact ⟨h1.len,h1.sup,h1.fac,fun a h0 hn ha=>by have:=h2 a h0 hn ha;omega,h1.abv,h1.done⟩
 have h:=key k;exact ⟨h.len,fun a h0 hn ha=>(h.sup a h0 hn ha).imp id And.right,h.fac,fun r hr=>h.done r hr (hk _ (hf.head r hr).1 (hf.head r hr).2)⟩
variable {st inp:List Int}
def Vg (st inp:List Int) (gs:List Gt) (k:Int):Bool:=mV (valsF st inp gs) k
theorem valsF_snoc (gs:List Gt) (g:Gt):valsF st inp (gs++[g])=valsF st inp gs++[Hu st inp (valsF st inp gs) g]:=by
 unfold valsF;rw [List.foldl_append];rfl
theorem PZ {gs:List Gt} {g:Gt} {k:Int} (h0:0≤k) (h:k<(gs.length:Nat)):Vg st inp (gs++[g]) k=Vg st inp gs k:=by
 unfold Vg mV;rw [valsF_snoc,List.getD_eq_getElem?_getD,List.getD_eq_getElem?_getD,List.getElem?_append_left (by rw [oK];omega)]
theorem J6 (gs:List Gt) (g:Gt):Vg st inp (gs++[g]) (gs.length:Nat)=Hu st inp (valsF st inp gs) g:=by
 unfold Vg mV;have:=oK st inp gs;rw [valsF_snoc,List.getD_eq_getElem?_getD,Int.toNat_natCast,List.getElem?_append_right (by omega),this,Nat.sub_self];rfl
theorem WA {gs:List Gt} {k:Int} (h0:0≤k):∀ {t:List Gt} {gs:List Gt},k<(gs.length:Nat)→Vg st inp (gs++t) k=Vg st inp gs k
 | [],gs,_=>by rw [List.append_nil]
 | x::t,gs,h=>by
   rw [show gs++x::t=(gs++[x])++t by simp,WA (gs:=gs++[x]) h0 (t:=t) (by simp;omega),PZ h0 h]
theorem mO {gs gs':List Gt} {k:Int} (hp:gs <+: gs') (h0:0≤k) (h:k<(gs.length:Nat)):Vg st inp gs' k=Vg st inp gs k:=by
 obtain ⟨t,rfl⟩:=hp;exact WA (gs:=gs) h0 h
theorem NK (out:List Bool):∀ (l:List Int) (v:Bool),l.foldl (xJ out 4) v=(v&&l.all (mV out))
 | [],v=>by simp
 | x::l,v=>by
   rw [List.foldl_cons,NK out l,List.all_cons,← Bool.and_assoc];rfl
theorem NI (out:List Bool):∀ (l:List Int) (v:Bool),l.foldl (xJ out 5) v=(v||l.any (mV out))
 | [],v=>by simp
 | x::l,v=>by
   rw [List.foldl_cons,NI out l,List.any_cons,← Bool.or_assoc];rfl
theorem VN {gs:List Gt} (h:cs0.1.1 <+: gs):Vg st inp gs 0=false∧Vg st inp gs 1=true:=by
 rw [mO h (Int.le_refl 0) (by decide),mO h (by decide) (by decide)];exact ⟨rfl,rfl⟩
theorem Hq (gs:List Gt) (kind:Int) (l:List Int):gs <+: gX gs kind l:=by
 unfold gX;split
 ·exact List.prefix_refl _
 ·exact List.prefix_refl _
 ·exact List.prefix_append _ _
theorem LH (val:Mi) (s:Gn) (b:Int):s.1 <+: (oD val s b).1:=by
 unfold oD;split
 ·exact List.prefix_refl _
 ·exact List.prefix_append _ _
theorem Yi (l:List Int) (p:Int→Bool):(nrm l).all p=l.all p:=by
 rw [Bool.eq_iff_iff,List.all_eq_true,List.all_eq_true];exact ⟨fun h x hx=>h x (qx.2 hx),fun h x hx=>h x (qx.1 hx)⟩
theorem Yh (l:List Int) (p:Int→Bool):(nrm l).any p=l.any p:=by
 rw [Bool.eq_iff_iff,List.any_eq_true,List.any_eq_true];exact ⟨fun ⟨x,hx,h⟩=>⟨x,qx.1 hx,h⟩,fun ⟨x,hx,h⟩=>⟨x,qx.2 hx,h⟩⟩
theorem FB {l:List Int} {p q:Int→Bool} (h:∀ x∈l,p x=q x):l.all p=l.all q:=by
 rw [Bool.eq_iff_iff,List.all_eq_true,List.all_eq_true];exact ⟨fun k x hx=>h x hx ▸ k x hx,fun k x hx=>(h x hx).symm ▸ k x hx⟩
theorem PU {l:List Int} {p q:Int→Bool} (h:∀ x∈l,p x=q x):l.any p=l.any q:=by
 rw [Bool.eq_iff_iff,List.any_eq_true,List.any_eq_true];exact ⟨fun ⟨x,hx,k⟩=>⟨x,hx,h x hx ▸ k⟩,fun ⟨x,hx,k⟩=>⟨x,hx,(h x hx).symm ▸ k⟩⟩
theorem U0 {gs:List Gt} {l:List Int} (hc:cs0.1.1 <+: gs):Vg st inp (gX gs 4 l) (nM gs 4 l)=l.all (Vg st inp gs):=by
 rw [← Yi l];unfold gX nM;generalize nrm l=u
 match u with
 | []=>exact (VN hc).2
 | [x]=>simp
 | x::y::u=>
   dsimp only;rw [J6];show (x::y::u).foldl (xJ (valsF st inp gs) 4) true=_;rw [NK,Bool.true_and];rfl
theorem Xw {gs:List Gt} {l:List Int} (hc:cs0.1.1 <+: gs):Vg st inp (gX gs 5 l) (nM gs 5 l)=l.any (Vg st inp gs):=by
 rw [← Yh l];unfold gX nM;generalize nrm l=u
 match u with
 | []=>exact (VN hc).1
 | [x]=>simp
 | x::y::u=>
   dsimp only;rw [J6];show (x::y::u).foldl (xJ (valsF st inp gs) 5) false=_;rw [NI,Bool.false_or];rfl
variable {nb ni n:Nat} {M:Int→Bool}
structure Sem (st inp:List Int) (nb ni n:Nat) (M:Int→Bool) (s:Gn):Prop where
 inv:GI nb ni n s
 pre:cs0.1.1 <+: s.1
 neg:∀ b k,jv s.2 b=some k→Vg st inp s.1 k=!M b
theorem MK {m:Mi} {a v b:Int}:jv (gU m a v) b=if b=a then some v else jv m b:=by
 induction m with
 | nil=>unfold gU jv;rfl
 | cons e m ih=>
   unfold gU;by_cases h:a=e.1
   ·rw [if_pos h];unfold jv;dsimp only;by_cases h2:b=a
    ·rw [if_pos h2,if_pos h2]
    ·rw [if_neg h2,if_neg h2,if_neg (fun k=>h2 (k.trans h.symm))]
   ·rw [if_neg h];unfold jv;by_cases h2:b=e.1
    ·rw [if_pos h2,if_neg (fun k=>h (k.symm.trans h2)),if_pos h2]
    ·rw [if_neg h2,ih,if_neg h2]
theorem oL {m:Mi} {a v b:Int}:bI (gU m a v) b=if b=a then v else bI m b:=by
 unfold bI;rw [MK];split<;>rfl
theorem Xk {val:Mi} {s:Gn} {b:Int} (h:Sem st inp nb ni n M s) (hv:dR val s.1.length) (hb:0≤b∧b<(n:Nat)) (hm:Vg st inp s.1 (bI val b)=M b) :
  Sem st inp nb ni n M (oD val s b)∧Vg st inp (oD val s b).1 (Bq s b)=!M b:=by
 obtain ⟨h1,h2⟩:=Dz h.inv hv hb;have hp:=LH val s b;have h2':=h.inv.two;have hval:=hv.val (a:=b) (by omega);cases hg:jv s.2 b with
 | some k=>
   have e1:oD val s b=s:=(by unfold oD;rw [hg]);have e2:Bq s b=k:=(by unfold Bq;rw [hg]);rw [e1,e2];exact ⟨h,h.neg b k hg⟩
 | none=>
   have e1:oD val s b=(s.1++[(6,0,[bI val b])],gU s.2 b (s.1.length:Nat)):=(by unfold oD;rw [hg]);have e2:Bq s b=(s.1.length:Nat):=(by unfold Bq;rw [hg]);have e3:Vg st inp (s.1++[(6,0,[bI val b])]) (s.1.length:Nat)=!M b:=by
    rw [J6,← hm];rfl
   refine ⟨⟨h1.inv,h.pre.trans hp,fun c k hc=>?_⟩,by rw [e1,e2];exact e3⟩;rw [e1] at hc ⊢;dsimp only at hc ⊢;rw [MK] at hc;split at hc
   ·rename_i e;cases hc;rw [e];exact e3
   ·have hr:=h.inv.neg _ (sS hc);rw [PZ hr.1 hr.2];exact h.neg c k hc
theorem Hz {val:Mi}:∀ {l:List Int} {s:Gn×List Int},Sem st inp nb ni n M s.1→dR val s.1.1.length→(∀ a∈l,0≤a∧a<(n:Nat))→(∀ a∈l,Vg st inp s.1.1 (bI val a)=M a)→Ran s.2 s.1.1.length →
  Sem st inp nb ni n M (l.foldl (gI val) s).1∧s.1.1 <+: (l.foldl (gI val) s).1.1∧(l.foldl (gI val) s).2.all (Vg st inp (l.foldl (gI val) s).1.1)=(s.2.all (Vg st inp s.1.1)&&l.all fun b=>!M b)
 | [],s,h,_,_,_,_=>⟨h,List.prefix_refl _,by simp⟩
 | a::l,s,h,hv,ha,hm,hr=>by
   rw [List.foldl_cons];obtain ⟨e1,e2⟩:=Dz h.inv hv (ha a (by simp));obtain ⟨h1,h2⟩:=Xk h hv (ha a (by simp)) (hm a (by simp));have hp:=LH val s.1 a;have h2':=h.inv.two;have h3:Ran (gI val s a).2 (gI val s a).1.1.length:=fun x hx=>by
    rcases List.mem_append.1 hx with hx | hx
    ·exact (hr.mono e1.len) x hx
    ·rw [List.mem_singleton.1 hx];exact e2
   obtain ⟨g1,g2,g3⟩:=Hz (l:=l) (s:=gI val s a) h1 (hv.mono e1.len) (fun b hb=>ha b (by simp [hb])) (fun b hb=>by
    have hvb:=hv.val (a:=b) (by omega);rw [show (gI val s a).1=oD val s.1 a from rfl,mO hp hvb.1 hvb.2]
    exact hm b (by simp [hb])) h3
   refine ⟨g1,hp.trans g2,?_⟩;rw [g3];show ((s.2++[Bq s.1 a]).all (Vg st inp (oD val s.1 a).1)&&_)=_;rw [List.all_append,List.all_cons,List.all_nil,Bool.and_true,h2,List.all_cons,Bool.and_assoc];congr 1;exact FB fun x hx=>mO hp (hr x hx).1 (hr x hx).2
def wz (X M:Int→Bool) (r:Gr):Bool:=r.2.1.all X&&r.2.2.all fun b=>!M b
theorem Ug {X:Int→Bool} {val:Mi} {r:Gr} {s:Gn} (h:Sem st inp nb ni n M s) (hv:dR val s.1.length) (hr:oJ n r) (hx:∀ b∈r.2.1,Vg st inp s.1 (bI val b)=X b) (hm:∀ b∈r.2.2,Vg st inp s.1 (bI val b)=M b) :
  Sem st inp nb ni n M (rJ val r s)∧s.1 <+: (rJ val r s).1∧Vg st inp (rJ val r s).1 (GN val r s)=wz X M r:=by
 have h2:=h.inv.two;have hran:Ran (r.2.1.map (bI val)) s.1.length:=fun x hx=>by
  obtain ⟨a,_,rfl⟩:=List.mem_map.1 hx;exact hv.val (by omega)
 obtain ⟨h3,h4⟩:=zG (l:=r.2.2) (s:=(s,r.2.1.map (bI val))) h.inv hv hr.2 hran;obtain ⟨g1,g2,g3⟩:=Hz (l:=r.2.2) (s:=(s,r.2.1.map (bI val))) h hv hr.2 hm hran;have hj:=uJ (kind:=4) (.inl rfl) h3.inv h4;have hp:=Hq (jB val r s).1.1 4 (jB val r s).2;refine ⟨⟨hj.1.inv,(h.pre.trans g2).trans hp,fun b k hb=>?_⟩,g2.trans hp,?_⟩
 ·have hk:=g1.inv.neg _ (sS hb);rw [show (rJ val r s).1=gX (jB val r s).1.1 4 (jB val r s).2 from rfl,mO hp hk.1 hk.2];exact g1.neg b k hb
 ·show Vg st inp (gX (jB val r s).1.1 4 (jB val r s).2) (nM (jB val r s).1.1 4 (jB val r s).2)=_;refine (U0 (gs:=(jB val r s).1.1) (l:=(jB val r s).2) g1.pre).trans (g3.trans ?_);unfold wz;congr 1;rw [List.all_map];exact FB fun b hb=>hx b hb
variable {st inp:List Int} {nb ni n:Nat} {M X:Int→Bool}
def F8 (X M:Int→Bool) (rules:List Gr) (a:Int):Bool:=rules.any fun r=>decide (r.1=a)&&wz X M r
theorem SN (rules:List Gr) (a:Nat) (p:Gr→Bool):((aI rules a rules.length).any fun i=>p (iQ rules i))=rules.any fun r=>decide (r.1=((a:Nat):Int))&&p r:=by
 rw [Bool.eq_iff_iff,List.any_eq_true,List.any_eq_true];unfold aI;constructor
 ·rintro ⟨x,hx,hp⟩;obtain ⟨i,hi,rfl⟩:=List.mem_map.1 hx;obtain ⟨h1,h2⟩:=List.mem_filter.1 hi;have hl:=List.mem_range.1 h1;unfold eH at h2;unfold iQ at hp;rw [List.getElem?_eq_getElem hl] at h2;rw [List.getD_eq_getElem?_getD,Int.toNat_natCast,List.getElem?_eq_getElem hl] at hp;refine ⟨rules[i],List.getElem_mem hl,?_⟩;rw [Bool.and_eq_true];exact ⟨by simpa using h2,hp⟩
 ·rintro ⟨r,hr,hp⟩;rw [Bool.and_eq_true] at hp;obtain ⟨i,hl,e⟩:=List.getElem_of_mem hr;refine ⟨(i:Nat),List.mem_map.2 ⟨i,List.mem_filter.2 ⟨List.mem_range.2 hl,?_⟩,rfl⟩,?_⟩
  ·unfold eH;rw [List.getElem?_eq_getElem hl,e]
   simpa using of_decide_eq_true hp.1
  ·unfold iQ;rw [List.getD_eq_getElem?_getD,Int.toNat_natCast,List.getElem?_eq_getElem hl,e];exact hp.2
theorem wV {rules:List Gr} {a:Nat} {x:Int} (h:x∈aI rules a rules.length):iQ rules x∈rules∧(iQ rules x).1=((a:Nat):Int):=by
 unfold aI at h;obtain ⟨i,hi,rfl⟩:=List.mem_map.1 h;obtain ⟨h1,h2⟩:=List.mem_filter.1 hi;have hl:=List.mem_range.1 h1;unfold eH at h2;unfold iQ;rw [List.getElem?_eq_getElem hl] at h2;rw [List.getD_eq_getElem?_getD,Int.toNat_natCast,List.getElem?_eq_getElem hl];exact ⟨List.getElem_mem hl,by simpa using h2⟩
def Ins (st inp:List Int) (gs:List Gt) (val:Mi) (X M:Int→Bool) (r:Gr):Prop:=(∀ b∈r.2.1,Vg st inp gs (bI val b)=X b)∧∀ b∈r.2.2,Vg st inp gs (bI val b)=M b
theorem Ins.pre {gs gs':List Gt} {val:Mi} {r:Gr} (h:Ins st inp gs val X M r) (hv:dR val gs.length) (h2:0<gs.length) (hp:gs <+: gs'):Ins st inp gs' val X M r:=by
 refine ⟨fun b hb=>?_,fun b hb=>?_⟩
 ·have:=hv.val (a:=b) h2;rw [mO hp this.1 this.2];exact h.1 b hb
 ·have:=hv.val (a:=b) h2;rw [mO hp this.1 this.2];exact h.2 b hb
theorem Fh {val:Mi} {rules:List Gr}:∀ {l:List Int} {s:Gn×List Int},Sem st inp nb ni n M s.1→dR val s.1.1.length→Ran s.2 s.1.1.length→(∀ i∈l,oJ n (iQ rules i)∧Ins st inp s.1.1 val X M (iQ rules i)) →
  Sem st inp nb ni n M (l.foldl (fO val rules) s).1∧s.1.1 <+: (l.foldl (fO val rules) s).1.1∧(l.foldl (fO val rules) s).2.any (Vg st inp (l.foldl (fO val rules) s).1.1)=(s.2.any (Vg st inp s.1.1)||l.any fun i=>wz X M (iQ rules i))
 | [],s,h,_,_,_=>⟨h,List.prefix_refl _,by simp⟩
 | i::l,s,h,hv,hn,hi=>by
   rw [List.foldl_cons];obtain ⟨hg,hin⟩:=hi i (by simp);obtain ⟨e1,e2⟩:=GR h.inv hv hg;obtain ⟨h1,hp,h2⟩:=Ug h hv hg hin.1 hin.2;have h2':=h.inv.two;have h3:Ran (fO val rules s i).2 (fO val rules s i).1.1.length:=fun x hx=>by
    rcases List.mem_append.1 hx with hx | hx
    ·exact (hn.mono e1.len) x hx
    ·rw [List.mem_singleton.1 hx];exact e2
   obtain ⟨g1,g2,g3⟩:=Fh (l:=l) (s:=fO val rules s i) h1 (hv.mono e1.len) h3 (fun j hj=>⟨(hi j (by simp [hj])).1,(hi j (by simp [hj])).2.pre hv (by omega) hp⟩);refine ⟨g1,hp.trans g2,?_⟩;rw [g3];show ((s.2++[GN val (iQ rules i) s.1]).any (Vg st inp (rJ val (iQ rules i) s.1).1)||_)=_;rw [List.any_append,List.any_cons,List.any_nil,Bool.or_false,h2,List.any_cons,Bool.or_assoc];congr 1;exact PU fun x hx=>mO hp (hn x hx).1 (hn x hx).2
theorem V8 {val:Mi} {rules:List Gr} {a:Nat} {s:Gn} (hr:∀ r∈rules,oJ n r) (h:Sem st inp nb ni n M s) (hv:dR val s.1.length) (hi:∀ r∈rules,r.1=((a:Nat):Int)→Ins st inp s.1 val X M r) :
  Sem st inp nb ni n M (nV val rules (aI rules a rules.length) s)∧s.1 <+: (nV val rules (aI rules a rules.length) s).1∧Vg st inp (nV val rules (aI rules a rules.length) s).1 (uj val rules (aI rules a rules.length) s)=F8 X M rules (a:Nat):=by
 have hi':∀ i∈aI rules a rules.length,oJ n (iQ rules i)∧Ins st inp s.1 val X M (iQ rules i):=fun i h=>⟨hr _ (wV h).1,hi _ (wV h).1 (wV h).2⟩
 obtain ⟨g1,g2,g3⟩:=Fh (l:=aI rules a rules.length) (s:=(s,[])) h hv (fun x hx=>by cases hx) hi';obtain ⟨h3,h4⟩:=xA hr (l:=aI rules a rules.length) (s:=(s,[])) h.inv hv (fun x hx=>by cases hx);have hj:=uJ (kind:=5) (.inr rfl) h3.inv h4;have hp:=Hq (gy val rules (aI rules a rules.length) s).1.1 5 (gy val rules (aI rules a rules.length) s).2;refine ⟨⟨hj.1.inv,(h.pre.trans g2).trans hp,fun b k hb=>?_⟩,g2.trans hp,?_⟩
 ·have hk:=g1.inv.neg _ (sS hb);rw [show (nV val rules (aI rules a rules.length) s).1=gX (gy val rules (aI rules a rules.length) s).1.1 5 (gy val rules (aI rules a rules.length) s).2 from rfl,mO hp hk.1 hk.2];exact g1.neg b k hb
 ·refine (Xw (gs:=(gy val rules (aI rules a rules.length) s).1.1) (l:=(gy val rules (aI rules a rules.length) s).2) g1.pre).trans (g3.trans ?_);rw [List.any_nil,Bool.false_or];exact SN rules a (wz X M)
theorem Ib {val:Mi} {rules:List Gr} (hr:∀ r∈rules,oJ n r):∀ {g:List Nat} {q:Cs},Sem st inp nb ni n M q.1→dR val q.1.1.length→dR q.2 q.1.1.length→(∀ r∈rules,∀ a∈g,r.1=((a:Nat):Int)→Ins st inp q.1.1 val X M r) →
  Sem st inp nb ni n M (g.foldl (iP rules val) q).1∧q.1.1 <+: (g.foldl (iP rules val) q).1.1∧(∀ a∈g,Vg st inp (g.foldl (iP rules val) q).1.1 (bI (g.foldl (iP rules val) q).2 (a:Nat))=F8 X M rules (a:Nat))∧∀ b,(∀ a∈g,b≠((a:Nat):Int))→bI (g.foldl (iP rules val) q).2 b=bI q.2 b
 | [],q,h,_,_,_=>⟨h,List.prefix_refl _,(fun a ha=>by cases ha),fun _ _=>rfl⟩
 | a::g,q,h,hv,hq,hi=>by
   rw [List.foldl_cons];obtain ⟨e1,e2⟩:=IJ hr (l:=aI rules a rules.length) h.inv hv;obtain ⟨h1,hp,h3⟩:=V8 hr h hv (fun r hr' e=>hi r hr' a (by simp) e);have h2':=h.inv.two;obtain ⟨g1,g2,g3,g4⟩:=Ib hr (g:=g) (q:=iP rules val q a) h1 (hv.mono e1.len) ((hq.mono e1.len).set e2) (fun r hr' b hb e=>(hi r hr' b (by simp [hb]) e).pre hv (by omega) hp);refine ⟨g1,hp.trans g2,fun b hb=>?_,fun b hb=>?_⟩
   ·by_cases hm:b∈g
    ·exact g3 b hm
    ·have e:b=a:=(by rcases List.mem_cons.1 hb with h | h;exact h;exact absurd h hm);subst e;rw [g4 (b:Nat) (fun c hc e=>hm (by rwa [show b=c by omega]))];rw [show (iP rules val q b).2=gU q.2 (b:Nat) (uj val rules (aI rules b rules.length) q.1) from rfl,oL,if_pos rfl,mO g2 e2.1 e2.2];exact h3
   ·rw [g4 b (fun c hc=>hb c (by simp [hc]))];rw [show (iP rules val q a).2=gU q.2 (a:Nat) (uj val rules (aI rules a rules.length) q.1) from rfl,oL,if_neg (hb a (by simp))]
theorem Iw {next:Mi}:∀ {g:List Nat} {val:Mi} {b:Int},bI (qP next g val) b=if (∃ a∈g,b=((a:Nat):Int)) then bI next b else bI val b
 | [],val,b=>by rw [if_neg (by rintro ⟨a,ha,_⟩;cases ha)];rfl
 | a::g,val,b=>by
   have ih:=Iw (next:=next) (g:=g) (val:=gU val (a:Nat) (bI next (a:Nat))) (b:=b);rw [show qP next (a::g) val=qP next g (gU val (a:Nat) (bI next (a:Nat))) from rfl,ih,oL];by_cases e:∃ c∈g,b=((c:Nat):Int)
   ·rw [if_pos e,if_pos (by obtain ⟨c,h1,h2⟩:=e;exact ⟨c,by simp [h1],h2⟩)]
   ·rw [if_neg e];by_cases e2:b=((a:Nat):Int)
    ·rw [if_pos e2,if_pos ⟨a,by simp,e2⟩,e2]
    ·rw [if_neg e2,if_neg (by
      rintro ⟨c,h1,h2⟩;rcases List.mem_cons.1 h1 with h | h
      ·exact e2 (h ▸ h2)
      ·exact e ⟨c,h,h2⟩)]
theorem F9:∀ {g:List Nat} {val:Mi} {b:Int},bI (jU g val) b=if (∃ a∈g,b=((a:Nat):Int)) then 0 else bI val b
 | [],val,b=>by rw [if_neg (by rintro ⟨a,ha,_⟩;cases ha)];rfl
 | a::g,val,b=>by
   have ih:=F9 (g:=g) (val:=gU val (a:Nat) 0) (b:=b);rw [show jU (a::g) val=jU g (gU val (a:Nat) 0) from rfl,ih,oL];by_cases e:∃ c∈g,b=((c:Nat):Int)
   ·rw [if_pos e,if_pos (by obtain ⟨c,h1,h2⟩:=e;exact ⟨c,by simp [h1],h2⟩)]
   ·rw [if_neg e];by_cases e2:b=((a:Nat):Int)
    ·rw [if_pos e2,if_pos ⟨a,by simp,e2⟩]
    ·rw [if_neg e2,if_neg (by
      rintro ⟨c,h1,h2⟩;rcases List.mem_cons.1 h1 with h | h
      ·exact e2 (h ▸ h2)
      ·exact e ⟨c,h,h2⟩)]
noncomputable def ku (M:Int→Bool) (rules:List Gr) (g:List Nat) (X:Int→Bool) (b:Int):Bool:=@ite _ (∃ a∈g,b=((a:Nat):Int)) (Classical.propDecidable _) (F8 X M rules b) (X b)
theorem sF {rules:List Gr} {g:List Nat} {a:Nat} (h:a∈g):ku M rules g X (a:Nat)=F8 X M rules (a:Nat):=by
 unfold ku;rw [if_pos ⟨a,h,rfl⟩]
theorem jG {rules:List Gr} {g:List Nat} {b:Int} (h:¬ ∃ a∈g,b=((a:Nat):Int)):ku M rules g X b=X b:=by
 unfold ku;rw [if_neg h]
def Know (st inp:List Int) (c:Cs) (K:Int→Prop) (X:Int→Bool):Prop:=∀ b,K b→Vg st inp c.1.1 (bI c.2 b)=X b
def aat (rules:List Gr) (g:List Nat) (K:Int→Prop) (X M:Int→Bool):Prop:=∀ r∈rules,∀ a∈g,r.1=((a:Nat):Int)→(∀ b∈r.2.1,K b)∧∀ b∈r.2.2,K b∧X b=M b
theorem GV {rules:List Gr} (hr:∀ r∈rules,oJ n r) {g:List Nat} {c:Cs} {K:Int→Prop} (h:Sem st inp nb ni n M c.1) (hv:dR c.2 c.1.1.length) (hk:Know st inp c K X) (hs:aat rules g K X M) :
  Sem st inp nb ni n M (oh rules g c).1∧dR (oh rules g c).2 (oh rules g c).1.1.length∧Know st inp (oh rules g c) (fun b=>K b∨∃ a∈g,b=((a:Nat):Int)) (ku M rules g X):=by
 have hi:∀ r∈rules,∀ a∈g,r.1=((a:Nat):Int)→Ins st inp c.1.1 c.2 X M r:=fun r hr' a ha e=>by
  obtain ⟨h1,h2⟩:=hs r hr' a ha e;exact ⟨fun b hb=>hk b (h1 b hb),fun b hb=>(hk b (h2 b hb).1).trans (h2 b hb).2⟩
 obtain ⟨g1,g2,g3,g4⟩:=Ib hr (g:=g) (q:=(c.1,[])) h hv (fun e he=>by cases he) hi;have hx:=Df hr (g:=g) h.inv hv;refine ⟨g1,hx.ran,fun b hb=>?_⟩;have h2:=h.inv.two;show Vg st inp (Aw rules g c).1.1 (bI (qP (Aw rules g c).2 g c.2) b)=_;rw [Iw];by_cases e:∃ a∈g,b=((a:Nat):Int)
 ·rw [if_pos e];obtain ⟨a,ha,rfl⟩:=e;rw [sF ha];exact g3 a ha
 ·rw [if_neg e,jG e];have hvb:=hv.val (a:=b) (by omega);have hkb:K b:=by rcases hb with h | h;exact h;exact absurd h e
  rw [show (Aw rules g c).1.1=(g.foldl (iP rules c.2) (c.1,[])).1.1 from rfl,mO g2 hvb.1 hvb.2];exact hk b hkb
variable {st inp:List Int} {nb ni n:Nat} {M X Y:Int→Bool}
def mdl (rk:List Int) (b:Int):Bool:=decide (0≤rkI rk b)
theorem TI {r:Gr} (h:∀ b∈r.2.1,X b=true→Y b=true) (hb:wz X M r=true):wz Y M r=true:=by
 unfold wz at hb ⊢;rw [Bool.and_eq_true,List.all_eq_true] at hb ⊢;exact ⟨fun b h1=>h b h1 (hb.1 b h1),hb.2⟩
theorem Wh {rules:List Gr} {a:Int} (h:∀ b,X b=true→Y b=true) (hb:F8 X M rules a=true):F8 Y M rules a=true:=by
 unfold F8 at hb ⊢;rw [List.any_eq_true] at hb ⊢;obtain ⟨r,hr,h2⟩:=hb;rw [Bool.and_eq_true] at h2;exact ⟨r,hr,by rw [Bool.and_eq_true];exact ⟨h2.1,TI (fun b _=>h b) h2.2⟩⟩
theorem DF {rules:List Gr} {g:List Nat} (h:∀ b,X b=true→Y b=true) (b:Int) (hb:ku M rules g X b=true):ku M rules g Y b=true:=by
 by_cases e:∃ a∈g,b=((a:Nat):Int)
 ·obtain ⟨a,ha,rfl⟩:=e;rw [sF ha] at hb ⊢;exact Wh h hb
 ·rw [jG e] at hb ⊢;exact h b hb
noncomputable def itX (M:Int→Bool) (rules:List Gr) (g:List Nat) (X:Int→Bool):Nat→Int→Bool
 | 0=>X
 | k+1=>ku M rules g (itX M rules g X k)
theorem Jy {rules:List Gr} {g:List Nat} {b:Int} (h:¬ ∃ a∈g,b=((a:Nat):Int)):∀ k,itX M rules g X k b=X b
 | 0=>rfl
 | k+1=>(jG h).trans (Jy h k)
theorem Yr {rules:List Gr} {g:List Nat} (h:∀ b,X b=true→ku M rules g X b=true):∀ k b,itX M rules g X k b=true→itX M rules g X (k+1) b=true
 | 0=>h
 | k+1=>fun b hb=>DF (Yr h k) b hb
theorem Yt {rules:List Gr} {g:List Nat} (h0:∀ b,X b=true→Y b=true) (h:∀ b,ku M rules g Y b=true→Y b=true):∀ k b,itX M rules g X k b=true→Y b=true
 | 0=>h0
 | k+1=>fun b hb=>h b (DF (Yt h0 h k) b hb)
def JX (g:List Nat) (X:Int→Bool):Nat:=(g.filter fun a=>X ((a:Nat):Int)).length
theorem cnt_le {g:List Nat} (h:∀ b,X b=true→Y b=true):JX g X≤JX g Y:=by
 induction g with
 | nil=>exact Nat.le_refl _
 | cons a g ih=>
   unfold JX at ih ⊢;rw [List.filter_cons,List.filter_cons];cases e:X ((a:Nat):Int) with
   | true=>rw [h _ e];simp only [if_true,List.length_cons];omega
   | false=>cases Y ((a:Nat):Int)<;>simp<;>omega
theorem cnt_lt {g:List Nat} (h:∀ b,X b=true→Y b=true) {a:Nat} (ha:a∈g) (h1:X ((a:Nat):Int)=false) (h2:Y ((a:Nat):Int)=true):JX g X<JX g Y:=by
 induction g with
 | nil=>cases ha
 | cons c g ih=>
   have hle:=cnt_le (g:=g) h;rcases List.mem_cons.1 ha with e | e
   ·subst e;unfold JX at hle ⊢;rw [List.filter_cons,List.filter_cons,h1,h2];simp only [if_true,List.length_cons];simp;omega
   ·have ih:=ih e;unfold JX at ih ⊢;rw [List.filter_cons,List.filter_cons];cases e:X ((c:Nat):Int) with
    | true=>rw [h _ e];simp only [if_true,List.length_cons];omega
    | false=>cases Y ((c:Nat):Int)<;>simp<;>omega
theorem X5 {g:List Nat} (h:g.length≤JX g X):∀ a∈g,X ((a:Nat):Int)=true:=by
 have:(g.filter fun a=>X ((a:Nat):Int))=g:=List.filter_sublist.eq_of_length_le h;intro a ha;rw [← this] at ha;exact (List.mem_filter.1 ha).2
theorem U4 {rules:List Gr} {g:List Nat} (h:∀ b,X b=true→ku M rules g X b=true):∀ k,(∀ b,ku M rules g (itX M rules g X k) b=itX M rules g X k b)∨k≤JX g (itX M rules g X k)
 | 0 => .inr (Nat.zero_le _)
 | k+1=>by
   by_cases hf:∀ b,ku M rules g (itX M rules g X k) b=itX M rules g X k b
   ·left;have e:itX M rules g X (k+1)=itX M rules g X k:=funext hf;rw [e];exact hf
   ·right;rcases U4 h k with h1 | h1
    ·exact absurd h1 hf
    ·have hu:=Yr h k;obtain ⟨b,hb⟩:=Classical.not_forall.1 hf;have hg:∃ a∈g,b=((a:Nat):Int):=Classical.byContradiction fun hn=>hb (jG hn)
     obtain ⟨a,ha,rfl⟩:=hg;have hx:itX M rules g X k ((a:Nat):Int)=false:=by
      cases e:itX M rules g X k ((a:Nat):Int) with
      | false=>rfl
      | true=>exact absurd ((hu _ e).trans e.symm) hb
     have hy:itX M rules g X (k+1) ((a:Nat):Int)=true:=by
      cases e:itX M rules g X (k+1) ((a:Nat):Int) with
      | true=>rfl
      | false=>exact absurd (e.trans hx.symm) hb
     have:=cnt_lt hu ha hx hy;omega
variable {str rk facts:List Int} {rules:List Gr}
theorem AA {b:Int}:mdl rk b=true↔0≤rkI rk b:=by unfold mdl;exact decide_eq_true_iff
theorem Yq {b:Int}:mdl rk b=false↔rkI rk b<0:=by
 unfold mdl;rw [decide_eq_false_iff_not];omega
theorem Yz {r:Gr}:wz X (mdl rk) r=true↔(∀ b∈r.2.1,X b=true)∧∀ b∈r.2.2,rkI rk b<0:=by
 unfold wz;rw [Bool.and_eq_true,List.all_eq_true,List.all_eq_true];constructor
 ·rintro ⟨h1,h2⟩;exact ⟨h1,fun b hb=>Yq.1 (by have:=h2 b hb;simpa using this)⟩
 ·rintro ⟨h1,h2⟩;exact ⟨h1,fun b hb=>by rw [Yq.2 (h2 b hb)];rfl⟩
theorem anyM {a:Int}:F8 X (mdl rk) rules a=true↔∃ r∈rules,r.1=a∧(∀ b∈r.2.1,X b=true)∧∀ b∈r.2.2,rkI rk b<0:=by
 unfold F8;rw [List.any_eq_true];constructor
 ·rintro ⟨r,hr,h⟩;rw [Bool.and_eq_true,decide_eq_true_eq] at h;exact ⟨r,hr,h.1,Yz.1 h.2⟩
 ·rintro ⟨r,hr,h1,h2⟩;exact ⟨r,hr,by rw [Bool.and_eq_true,decide_eq_true_eq];exact ⟨h1,Yz.2 h2⟩⟩
theorem QA (h:mP n str rules facts rk) {a:Int} (ha:F8 (mdl rk) (mdl rk) rules a=true):mdl rk a=true:=by
 obtain ⟨r,hr,e,h1,h2⟩:=anyM.1 ha;exact AA.2 (e ▸ h.cls r hr (fun x hx=>AA.1 (h1 x hx)) h2)
theorem UW (h:mP n str rules facts rk) {g:List Nat} (b:Int) (hb:ku (mdl rk) rules g (mdl rk) b=true):mdl rk b=true:=by
 by_cases e:∃ a∈g,b=((a:Nat):Int)
 ·obtain ⟨a,ha,rfl⟩:=e;rw [sF ha] at hb;exact QA h hb
 ·rwa [jG e] at hb
structure FD (n:Nat) (str facts:List Int) (g:List Nat):Prop where
 lt:∀ a∈g,a<n
 str:∀ a∈g,∀ b∈g,rkI str (a:Nat)=rkI str (b:Nat)
 fac:∀ a∈g,((a:Nat):Int)∉facts
theorem UJ (h:mP n str rules facts rk) {g:List Nat} (hg:FD n str facts g) (b:Int):ku (mdl rk) rules g (mdl rk) b=mdl rk b:=by
 by_cases e:∃ a∈g,b=((a:Nat):Int)
 ·obtain ⟨a,ha,rfl⟩:=e;rw [sF ha,Bool.eq_iff_iff];refine ⟨QA h,fun hm=>?_⟩;rcases h.sup (a:Nat) (by omega) (by have:=hg.lt a ha;omega) (AA.1 hm) with h1 | ⟨r,hr,e,h1,h2⟩
  ·exact absurd h1 (hg.fac a ha)
  ·exact anyM.2 ⟨r,hr,e,fun x hx=>AA.2 (h1 x hx).1,h2⟩
 ·exact jG e
theorem QM (h:mP n str rules facts rk) {g:List Nat} (hg:FD n str facts g) (hX:∀ b,(¬ ∃ a∈g,b=((a:Nat):Int))→X b=mdl rk b) (hf:∀ b,ku (mdl rk) rules g X b=X b):∀ (k:Nat) (a:Nat),a∈g→0≤rkI rk (a:Nat)→(rkI rk (a:Nat)).toNat<k→X (a:Nat)=true
 | 0,_,_,_,hk=>by omega
 | k+1,a,ha,hm,hk=>by
   rcases h.sup (a:Nat) (by omega) (by have:=hg.lt a ha;omega) hm with h1 | ⟨r,hr,e,h1,h2⟩
   ·exact absurd h1 (hg.fac a ha)
   ·rw [← hf,sF ha];refine anyM.2 ⟨r,hr,e,fun x hx=>?_,h2⟩;obtain ⟨x0,hx2⟩:=h1 x hx;by_cases ex:∃ c∈g,x=((c:Nat):Int)
    ·obtain ⟨c,hc,rfl⟩:=ex;have hs:=hg.str c hc a ha;exact QM h hg hX hf k c hc x0 (by rcases hx2 with h | h<;>omega)
    ·rw [hX x ex];exact AA.2 x0
theorem Oj (h:mP n str rules facts rk) {g:List Nat} (hg:FD n str facts g) (hX:∀ b,(¬ ∃ a∈g,b=((a:Nat):Int))→X b=mdl rk b) (h0:∀ a∈g,X ((a:Nat):Int)=false) (b:Int):itX (mdl rk) rules g X g.length b=mdl rk b:=by
 have hle:∀ b,X b=true→mdl rk b=true:=fun b hb=>by
  by_cases e:∃ a∈g,b=((a:Nat):Int)
  ·obtain ⟨a,ha,rfl⟩:=e;rw [h0 a ha] at hb;cases hb
  ·rwa [hX b e] at hb
 have hup:∀ b,X b=true→ku (mdl rk) rules g X b=true:=fun b hb=>by
  by_cases e:∃ a∈g,b=((a:Nat):Int)
  ·obtain ⟨a,ha,rfl⟩:=e;rw [h0 a ha] at hb;cases hb
  ·rwa [jG e]
 by_cases e:∃ a∈g,b=((a:Nat):Int)
 ·obtain ⟨a,ha,rfl⟩:=e;rw [Bool.eq_iff_iff];refine ⟨Yt hle (fun b=>UW h b) g.length _,fun hm=>?_⟩;rcases U4 (rules:=rules) hup g.length with h1 | h1
  ·exact QM h hg (fun b hb=>(Jy hb _).trans (hX b hb)) h1 _ a ha (AA.1 hm) (Nat.lt_succ_self _)
  ·exact X5 h1 a ha
 ·exact (Jy e _).trans (hX b e)
theorem Dc (hr:∀ r∈rules,oJ n r) {g:List Nat} {c:Cs} {K:Int→Prop} (hin:∀ a∈g,K ((a:Nat):Int)) (h:Sem st inp nb ni n M c.1) (hv:dR c.2 c.1.1.length) (hk:Know st inp c K X)
  (hs:∀ r∈rules,∀ a∈g,r.1=((a:Nat):Int)→(∀ b∈r.2.1,K b)∧∀ b∈r.2.2,K b∧(¬ ∃ a∈g,b=((a:Nat):Int))∧X b=M b) :
  ∀ k,Sem st inp nb ni n M (bZ rules g k c).1∧dR (bZ rules g k c).2 (bZ rules g k c).1.1.length∧Know st inp (bZ rules g k c) K (itX M rules g X k)
 | 0=>⟨h,hv,hk⟩
 | k+1=>by
   obtain ⟨h1,h2,h3⟩:=Dc hr hin h hv hk hs k
   obtain ⟨g1,g2,g3⟩:=GV hr (g:=g) h1 h2 h3 (fun r hr' a ha e=>⟨(hs r hr' a ha e).1,fun b hb=>⟨((hs r hr' a ha e).2 b hb).1,by
    obtain ⟨_,p,q⟩:=(hs r hr' a ha e).2 b hb
    rw [Jy p];exact q⟩⟩)
   exact ⟨g1,g2,fun b hb=>g3 b (.inl hb)⟩
theorem SY (hr:∀ r∈rules,oJ n r) (hw:mP n str rules facts rk) {g:List Nat} (hg:FD n str facts g) {c:Cs} {K:Int→Prop} (h:Sem st inp nb ni n (mdl rk) c.1) (hv:dR c.2 c.1.1.length) (hk:Know st inp c K (mdl rk))
  (hs:∀ r∈rules,∀ a∈g,r.1=((a:Nat):Int)→(∀ b∈r.2.1,K b∨∃ a∈g,b=((a:Nat):Int))∧∀ b∈r.2.2,K b∧¬ ∃ a∈g,b=((a:Nat):Int)) :
  Sem st inp nb ni n (mdl rk) (gV rules g c).1∧dR (gV rules g c).2 (gV rules g c).1.1.length∧Know st inp (gV rules g c) (fun b=>K b∨∃ a∈g,b=((a:Nat):Int)) (mdl rk):=by
 have h2:=h.inv.two;unfold gV;cases hb:xU rules g with
 | false=>
   have hno:∀ r∈rules,∀ a∈g,r.1=((a:Nat):Int)→∀ b∈r.2.1++r.2.2,¬ ∃ a∈g,b=((a:Nat):Int):=fun r hr' a ha e b hb' hx=>by
    have:P6 rules g:=by
     obtain ⟨i,hl,hi⟩:=List.getElem_of_mem hr';obtain ⟨c,hc,hbc⟩:=hx;refine ⟨a,ha,i,hl,?_,r,by rw [List.getElem?_eq_getElem hl,hi],b,hb',List.mem_map.2 ⟨c,hc,hbc.symm⟩⟩;unfold eH;rw [List.getElem?_eq_getElem hl,hi]
     simpa using e
    rw [Jf this] at hb;cases hb
   obtain ⟨g1,g2,g3⟩:=GV hr (g:=g) h hv hk (fun r hr' a ha e=>⟨fun b hb'=>by
    rcases (hs r hr' a ha e).1 b hb' with h | h
    ·exact h
    ·exact absurd h (hno r hr' a ha e b (by simp [hb'])),fun b hb'=>⟨((hs r hr' a ha e).2 b hb').1,rfl⟩⟩)
   refine ⟨g1,g2,fun b hb'=>?_⟩;rw [← UJ hw hg];exact g3 b hb'
 | true=>
   have hz:∃ X0:Int→Bool,(∀ b,(¬ ∃ a∈g,b=((a:Nat):Int))→X0 b=mdl rk b)∧∀ a∈g,X0 ((a:Nat):Int)=false:=
    ⟨fun b=>@ite _ (∃ a∈g,b=((a:Nat):Int)) (Classical.propDecidable _) false (mdl rk b),fun b hb'=>if_neg hb',fun a ha=>if_pos ⟨a,ha,rfl⟩⟩
   obtain ⟨X0,hX,h0⟩:=hz;have hk0:Know st inp (c.1,jU g c.2) (fun b=>K b∨∃ a∈g,b=((a:Nat):Int)) X0:=fun b hb'=>by
    dsimp only;rw [F9];by_cases e:∃ a∈g,b=((a:Nat):Int)
    ·rw [if_pos e];obtain ⟨a,ha,rfl⟩:=e;rw [h0 a ha];exact (VN h.pre).1
    ·rw [if_neg e,hX b e];rcases hb' with h | h
     ·exact hk b h
     ·exact absurd h e
   obtain ⟨g1,g2,g3⟩:=Dc hr (g:=g) (c:=(c.1,jU g c.2)) (K:=fun b=>K b∨∃ a∈g,b=((a:Nat):Int)) (X:=X0) (fun a ha => .inr ⟨a,ha,rfl⟩) h (yT (k:=c.1.1.length) (by omega) hv) hk0
    (fun r hr' a ha e=>⟨(hs r hr' a ha e).1,fun b hb'=>⟨.inl ((hs r hr' a ha e).2 b hb').1,((hs r hr' a ha e).2 b hb').2,hX b ((hs r hr' a ha e).2 b hb').2⟩⟩) g.length
   exact ⟨g1,g2,fun b hb'=>(g3 b hb').trans (Oj hw hg hX h0 b)⟩
variable {st inp:List Int} {nb ni:Nat} {atoms:List Tm} {str rk facts:List Int} {rules:List Gr}
theorem Ut {n:Nat} (hh:∀ r∈rules,0≤r.1) {x y:Int} (hx:0≤x) (h:Rch (aA n rules) x y):∃ r∈rules,r.1=x:=by
 obtain ⟨c,hc,_⟩:=Rch.first h
 obtain ⟨r,hr,e,_⟩:=wO hh hx hc;exact ⟨r,hr,e⟩
theorem Qq {n:Nat} (hin:∀ r∈rules,oJ n r) (hf:xC n str rules) {x y:Int} (hx:0≤x) (h:Rch (aA n rules) x y):rkI str y≤rkI str x:=by
 have hh:∀ r∈rules,0≤r.1:=fun r hr=>(hf.head r hr).1
 have one:∀ a b,0≤a→b∈rowOf (aA n rules) a→rkI str b≤rkI str a:=fun a b ha hb=>by
  obtain ⟨r,hr,e,h1⟩:=wO hh ha hb;rw [← e];rcases h1 with h1 | h1
  ·exact (hf.pos r hr b h1).2.2
  ·exact Int.le_of_lt (hf.neg r hr b h1).2.2
 induction h with
 | one hb=>exact one _ _ hx hb
 | step h1 hc ih=>exact Int.le_trans (one _ _ (Rch.inR (DJ hin) h1).1 hc) ih
def Gvn (atoms:List Tm) (b:Int):Prop:=∃ a:Nat,a<atoms.length∧b=(a:Nat)∧iF (atoms.getD a (.mk [] []))=true
theorem LJ (hh:∀ r∈rules,0≤r.1∧r.1.toNat<atoms.length) (hgv:∀ r∈rules,aZ atoms r=false) {a:Nat} (h:iF (atoms.getD a (.mk [] []))=true):∀ r∈rules,r.1≠(a:Nat):=fun r hr e=>by
 have h1:=Vf (r:=r) (hh r hr).2;rw [hgv r hr] at h1;have h2:r.1.toNat=a:=by omega
 have hl:=(hh r hr).2;rw [List.getD_eq_getElem?_getD,List.getElem?_eq_getElem (by omega)] at h;simp only [h2] at h1;rw [Option.getD_some] at h;rw [← h1] at h;cases h
theorem Sr (hh:∀ r∈rules,0≤r.1∧r.1.toNat<atoms.length) (hw:mP atoms.length str rules facts rk) (hgv:∀ r∈rules,aZ atoms r=false) {b:Int} (h:Gvn atoms b):mdl rk b=decide (b∈facts):=by
 obtain ⟨a,ha,rfl,hg⟩:=h;rw [Bool.eq_iff_iff,AA,decide_eq_true_eq];refine ⟨fun h1=>?_,hw.fac _⟩;rcases hw.sup (a:Nat) (by omega) (by omega) h1 with h2 | ⟨r,hr,e,_⟩
 ·exact h2
 ·exact absurd e (LJ hh hgv hg r hr)
theorem Vo {n a:Nat} {m:Own.Rows} (ha:a<n):a∈grp (bg n m) n a:=cO.2 ⟨ha,(gK ha ha).2 (.inl rfl)⟩
theorem O4 (hin:dZ atoms.length rules) (hf:xC atoms.length str rules) (hw:mP atoms.length str rules facts rk) (hgv:∀ r∈rules,aZ atoms r=false) (hfa:∀ a∈facts,Gvn atoms a)
  {c:Cs} (h:Sem st inp nb ni atoms.length (mdl rk) c.1) (hv:dR c.2 c.1.1.length) (hk:Know st inp c (Gvn atoms) (mdl rk)) :
  Sem st inp nb ni atoms.length (mdl rk) ((aQ (bg atoms.length (aA atoms.length rules)) atoms.length).foldl (cZ atoms rules) c).1 ∧
   Know st inp ((aQ (bg atoms.length (aA atoms.length rules)) atoms.length).foldl (cZ atoms rules) c) (fun b=>0≤b∧b.toNat<atoms.length) (mdl rk):=by
 have hr:∀ r∈rules,oJ atoms.length r:=hin.body;obtain ⟨l,hG,hall⟩:=O5 (aA atoms.length rules) atoms.length;have heach:=nO (bg atoms.length (aA atoms.length rules)) atoms.length;generalize hGe:aQ (bg atoms.length (aA atoms.length rules)) atoms.length=G at hG heach ⊢;have key:∀ k,k≤G.length→Sem st inp nb ni atoms.length (mdl rk) ((G.take k).foldl (cZ atoms rules) c).1∧dR ((G.take k).foldl (cZ atoms rules) c).2 ((G.take k).foldl (cZ atoms rules) c).1.1.length ∧
   Know st inp ((G.take k).foldl (cZ atoms rules) c) (fun b=>Gvn atoms b∨∃ i,i<k∧∃ g,G[i]?=some g∧∃ a∈g,b=((a:Nat):Int)) (mdl rk):=fun k=>by
  induction k with
  | zero=>
    intro _;refine ⟨h,hv,fun b hb=>?_⟩;rcases hb with hb | ⟨i,hi,_⟩
    ·exact hk b hb
    ·omega
  | succ k ih=>
    intro hkl;obtain ⟨h1,h2,h3⟩:=ih (by omega);have hgk:G[k]?=some G[k]:=List.getElem?_eq_getElem (by omega);rw [List.take_succ_eq_append_getElem (by omega),List.foldl_append,List.foldl_cons,List.foldl_nil];generalize (G.take k).foldl (cZ atoms rules) c=c1 at h1 h2 h3 ⊢;obtain ⟨a,ha,hga⟩:=heach G[k] (List.getElem_mem (by omega));have hpair:∀ x∈G[k],∀ y∈G[k],x=y∨(Rch (aA atoms.length rules) x y∧Rch (aA atoms.length rules) y x):=fun x hx y hy=>Ec ha (hga ▸ hx) (hga ▸ hy)
    have hlt:=hG.lt k G[k] hgk;have hself:a∈G[k]:=(by rw [hga];exact Vo ha);have h0:G[k].getD 0 0∈G[k]:=by
     cases he:G[k] with
     | nil=>rw [he] at hself;cases hself
     | cons x u=>simp
    generalize hg0:G[k].getD 0 0=a0 at h0;have hgiv:∀ x∈G[k],∀ y∈G[k],iF (atoms.getD x (.mk [] []))=true→x=y:=fun x hx y hy hgx=>by
     rcases hpair x hx y hy with h | ⟨h,_⟩
     ·exact h
     ·obtain ⟨r,hr',e⟩:=Ut (fun r hr'=>(hf.head r hr').1) (Int.natCast_nonneg x) h;exact absurd e (LJ hf.head hgv hgx r hr')
    unfold cZ;rw [hg0];cases hgt:iF (atoms.getD a0 (.mk [] [])) with
    | true=>
      dsimp only;refine ⟨h1,h2,fun b hb=>?_⟩;rcases hb with hb | ⟨i,hi,g,hg,x,hx,e⟩
      ·exact h3 b (.inl hb)
      ·by_cases hik:i<k
       ·exact h3 b (.inr ⟨i,hik,g,hg,x,hx,e⟩)
       ·have hie:i=k:=(by omega);rw [hie,hgk] at hg;cases hg;have:=hgiv a0 h0 x hx hgt;subst this;exact h3 b (.inl ⟨a0,hlt a0 h0,e,hgt⟩)
    | false=>
      dsimp only;have hfit:FD atoms.length str facts G[k]:=by
       refine ⟨hlt,fun x hx y hy=>?_,fun x hx hxf=>?_⟩
       ·rcases hpair x hx y hy with h | ⟨h,h'⟩
        ·rw [h]
        ·have e1:=Qq hr hf (Int.natCast_nonneg x) h;have e2:=Qq hr hf (Int.natCast_nonneg y) h';omega
       ·obtain ⟨x',_,e,hgx⟩:=hfa _ hxf;have e':x=x':=(by omega);subst e';have:=hgiv x hx a0 h0 hgx;subst this;rw [hgt] at hgx;cases hgx
      have hbody:∀ r∈rules,∀ x∈G[k],r.1=((x:Nat):Int)→∀ b,(b∈r.2.1∨b∈r.2.2)→(Gvn atoms b∨∃ i,i<k∧∃ g,G[i]?=some g∧∃ a∈g,b=((a:Nat):Int))∨∃ a∈G[k],b=((a:Nat):Int):=fun r hr' x hx e b hb=>by
       have hbr:0≤b∧b<(atoms.length:Nat):=by
        rcases hb with hb | hb
        ·exact (hr r hr').1 b hb
        ·exact (hr r hr').2 b hb
       have hrow:=G8 (n:=atoms.length) hr' (hf.head r hr').2 hb;rw [e] at hrow;have hbn:b=((b.toNat:Nat):Int):=(by omega);rw [hbn] at hrow;obtain ⟨i,g,hik,hg,hbg⟩:=hG.ord k G[k] x b.toNat hgk hx (by omega) (.one hrow);by_cases hlt':i<k
       ·exact .inl (.inr ⟨i,hlt',g,hg,b.toNat,hbg,hbn⟩)
       ·have hie:i=k:=(by omega);rw [hie,hgk] at hg;cases hg;exact .inr ⟨b.toNat,hbg,hbn⟩
      have hneg:∀ r∈rules,∀ x∈G[k],r.1=((x:Nat):Int)→∀ b∈r.2.2,¬ ∃ a∈G[k],b=((a:Nat):Int):=fun r hr' x hx e b hb ⟨y,hy,ey⟩=>by
       have h4:=(hf.neg r hr' b hb).2.2;have h5:=hfit.str x hx y hy;rw [e,ey] at h4;omega
      obtain ⟨g1,g2,g3⟩:=SY hr hw hfit h1 h2 h3 (fun r hr' x hx e=>⟨fun b hb=>hbody r hr' x hx e b (.inl hb),fun b hb=>⟨by
       rcases hbody r hr' x hx e b (.inr hb) with h | h
       ·exact h
       ·exact absurd h (hneg r hr' x hx e b hb),hneg r hr' x hx e b hb⟩⟩)
      refine ⟨g1,g2,fun b hb=>g3 b ?_⟩;rcases hb with hb | ⟨i,hi,g,hg,x,hx,e⟩
      ·exact .inl (.inl hb)
      ·by_cases hik:i<k
       ·exact .inl (.inr ⟨i,hik,g,hg,x,hx,e⟩)
       ·have hie:i=k:=(by omega);rw [hie,hgk] at hg;cases hg;exact .inr ⟨x,hx,e⟩
 have hfin:=key G.length (Nat.le_refl _);rw [List.take_length] at hfin;refine ⟨hfin.1,fun b hb=>hfin.2.2 b (.inr ?_)⟩;obtain ⟨i,g,hg,hx⟩:=(hG.mem b.toNat hb.2).1 (hall b.toNat hb.2);exact ⟨i,(List.getElem?_eq_some_iff.1 hg).1,g,hg,b.toNat,hx,by omega⟩
def gvT (bases:List Tm) (t:Tm) (s:Int):Bool:=t.name==eY&&decide (t.args.length=1)&&eqT (t.args.getD 0 (.mk [] [])) (bases.getD s.toNat (.mk [] []))
def gvI (names:List Tm) (ins:List In) (t:Tm) (k:Int):Bool:=t.name==bC&&decide (t.args.length=2)&&eqT (t.args.getD 0 (.mk [] [])) (dV names (ins.getD k.toNat (0,.mk [] [])).1)&&eqT (t.args.getD 1 (.mk [] [])) (ins.getD k.toNat (0,.mk [] [])).2
def l7 (names bases:List Tm) (ins:List In) (st inp:List Int) (p:Tm×Nat):List Int:=((st.filter (gvT bases p.1)).map fun _=>((p.2:Nat):Int))++(inp.filter (gvI names ins p.1)).map fun _=>((p.2:Nat):Int)
def gvF (atoms names bases:List Tm) (ins:List In) (st inp:List Int):List Int:=atoms.zipIdx.flatMap (l7 names bases ins st inp)
theorem uN {names bases:List Tm} {ins:List In} {st inp:List Int} {p:Tm×Nat} {x:Int}:x∈l7 names bases ins st inp p↔x=((p.2:Nat):Int)∧((∃ s∈st,gvT bases p.1 s=true)∨∃ k∈inp,gvI names ins p.1 k=true):=by
 unfold l7;simp only [List.mem_append,List.mem_map,List.mem_filter];constructor
 ·rintro (⟨s,hs,rfl⟩ | ⟨s,hs,rfl⟩)
  ·exact ⟨rfl,.inl ⟨s,hs⟩⟩
  ·exact ⟨rfl,.inr ⟨s,hs⟩⟩
 ·rintro ⟨rfl,⟨s,hs⟩ | ⟨s,hs⟩⟩
  ·exact .inl ⟨s,hs,rfl⟩
  ·exact .inr ⟨s,hs,rfl⟩
theorem yC {atoms names bases:List Tm} {ins:List In} {st inp:List Int} {x:Int}:x∈gvF atoms names bases ins st inp↔∃ (i:Nat) (h:i<atoms.length),x=(i:Nat)∧((∃ s∈st,gvT bases atoms[i] s=true)∨∃ k∈inp,gvI names ins atoms[i] k=true):=by
 unfold gvF;rw [List.mem_flatMap];constructor
 ·rintro ⟨⟨t,i⟩,hp,hx⟩;obtain ⟨h1,h2⟩:=uN.1 hx;have hg:=List.mk_mem_zipIdx_iff_getElem?.1 hp;obtain ⟨hl,e⟩:=List.getElem?_eq_some_iff.1 hg;exact ⟨i,hl,h1,by rw [e];exact h2⟩
 ·rintro ⟨i,h,e,h2⟩;exact ⟨(atoms[i],i),List.mk_mem_zipIdx_iff_getElem?.2 (List.getElem?_eq_getElem h),uN.2 ⟨e,h2⟩⟩
theorem O8 {atoms:List Tm} {rules:List Gr} (hv:aK atoms rules=true):∀ t∈atoms,Grd t:=fun t ht=>⟨4,(Nz hv t ht).1⟩
theorem MJ {names:List Tm} (hR:aX names=true) {i:Nat} (hi:i<names.length):Grd names[i]:=by
 obtain ⟨h1,h2,_⟩:=jd hR hi;refine ⟨1,?_⟩;generalize names[i]=t at h1 h2;obtain ⟨n,l⟩:=t;have:l=[]:=List.length_eq_zero_iff.1 h1;subst this;unfold eG;simp only [List.length_nil];rw [show nameB n=true from h2];rfl
theorem Jl {l:List Tm} (h:l.Pairwise fun a b=>aS a b<0):∀ {i:Nat} {j:Int} (hi:i<l.length),dM l[i] j l=j+(i:Nat):=by
 induction l with
 | nil=>intro i j hi;exact absurd hi (Nat.not_lt_zero _)
 | cons t l ih=>
   intro i j hi;obtain ⟨h1,h2⟩:=List.pairwise_cons.1 h;cases i with
   | zero=>unfold dM;rw [List.getElem_cons_zero,if_pos (lM t)];omega
   | succ i=>
     rw [List.getElem_cons_succ];have hi':i<l.length:=(by simpa using hi);have:=h1 _ (List.getElem_mem hi');unfold dM;rw [if_neg (by omega),ih h2 hi'];omega
theorem getD_at {α:Type} {l:List α} {d:α} {i:Nat} (h:i<l.length):l.getD i d=l[i]:=by
 rw [List.getD_eq_getElem?_getD,List.getElem?_eq_getElem h];rfl
variable {atoms names str rk_:List Tm} {rules:List Gr} {st inp rk facts:List Int}
theorem II {p:Tm×Nat} (hp:p∈(ak atoms).zipIdx):∃ (i:Nat) (h:i<atoms.length),atoms[i] = .mk eY [p.1]:=by
 have hm:p.1∈ak atoms:=by
  have:=List.mk_mem_zipIdx_iff_getElem?.1 (show (p.1,p.2)∈_ from hp);exact List.mem_of_getElem? this
 unfold ak fK at hm;obtain ⟨t,ht,e⟩:=List.mem_filterMap.1 hm;obtain ⟨i,hi,rfl⟩:=List.getElem_of_mem ht;obtain ⟨e1,e2⟩:=CS e;exact ⟨i,hi,Tm.ext e1 e2⟩
theorem Xz {x:In} (h:x∈aU atoms names):∃ (k:Nat) (hk:k<names.length) (i:Nat) (hi:i<atoms.length) (a:Tm),x.1=k∧atoms[i].name=bC∧atoms[i].args=[a,x.2]∧aS a names[k]=0:=by
 unfold aU at h;obtain ⟨⟨r,k⟩,hp,hx⟩:=List.mem_flatMap.1 h;obtain ⟨hk,e⟩:=List.getElem?_eq_some_iff.1 (List.mk_mem_zipIdx_iff_getElem?.1 hp);unfold Bv at hx;obtain ⟨m,hm,rfl⟩:=List.mem_map.1 hx;unfold fK at hm;obtain ⟨t,ht,e2⟩:=List.mem_filterMap.1 hm;obtain ⟨i,hi,rfl⟩:=List.getElem_of_mem ht;obtain ⟨a,h1,h2,h3⟩:=xM e2;exact ⟨k,hk,i,hi,a,rfl,h1,h2,by rw [e];exact h3⟩
theorem yA (hv:aK atoms rules=true) (hR:aX names=true) {x:In} (h:x∈aU atoms names):∃ (i:Nat) (h:i<atoms.length),atoms[i] = .mk bC [dV names x.1,x.2]∧x.1<names.length:=by
 obtain ⟨k,hk,i,hi,a,e1,h1,h2,h3⟩:=Xz h;have hg:Grd a:=(O8 hv _ (List.getElem_mem hi)).arg (by rw [h2];simp);have:=IE a names[k] hg (MJ hR hk) h3;refine ⟨i,hi,Tm.ext h1 ?_,by omega⟩;rw [h2,this,e1];unfold dV;rw [getD_at hk];rfl
theorem Nw (hv:aK atoms rules=true) {i j:Nat} (hi:i<(ak atoms).length) (hj:j<(ak atoms).length) (h:(ak atoms)[i]=(ak atoms)[j]):i=j:=by
 have ha:=List.pairwise_iff_getElem.1 (show (ak atoms).Pairwise fun a b=>aS a b<0 from vN (name:=eY) (jO hv));rcases Nat.lt_trichotomy i j with hl | hl | hl
 ·have:=ha i j hi hj hl;rw [h,lM] at this;omega
 ·exact hl
 ·have:=ha j i hj hi hl;rw [h,lM] at this;omega
theorem Vb (hv:aK atoms rules=true) {i j:Nat} (hi:i<(aU atoms names).length) (hj:j<(aU atoms names).length) (h1:(aU atoms names)[i].1=(aU atoms names)[j].1) (h2:(aU atoms names)[i].2=(aU atoms names)[j].2):i=j:=by
 have ha:=List.pairwise_iff_getElem.1 (L8 (jO hv) names);rcases Nat.lt_trichotomy i j with hl | hl | hl
 ·have:=ha i j hi hj hl;rw [h2,lM] at this;omega
 ·exact hl
 ·have:=ha j i hj hi hl;rw [h2,lM] at this;omega
theorem KY (hR:aX names=true) {i j:Nat} (hi:i<names.length) (hj:j<names.length) (h:names[i]=names[j]):i=j:=by
 rcases Nat.lt_trichotomy i j with hl | hl | hl
 ·exact absurd (by rw [h]) ((jd hR hj).2.2 i hl)
 ·exact hl
 ·exact absurd (by rw [h]) ((jd hR hi).2.2 j hl)
theorem Ea {bases:List Tm} {t:Tm} {s:Int} (hs:0≤s∧s<(bases.length:Nat)) (h:gvT bases t s=true):∃ h:s.toNat<bases.length,t = .mk eY [bases[s.toNat]]:=by
 unfold gvT at h;simp only [Bool.and_eq_true,beq_iff_eq,decide_eq_true_eq] at h;obtain ⟨⟨h1,h2⟩,h3⟩:=h;have hl:s.toNat<bases.length:=by omega
 refine ⟨hl,Tm.ext h1 ?_⟩;rw [getD_at hl] at h3;have h3:=(jA _ _).1 h3
 match he:t.args,h2 with
 | [x],_=>
   rw [he] at h3;show [x]=[_];rw [← h3];rfl
theorem Eb {ins:List In} {t:Tm} {k:Int} (hk:0≤k∧k<(ins.length:Nat)) (h:gvI names ins t k=true):∃ h:k.toNat<ins.length,t = .mk bC [dV names ins[k.toNat].1,ins[k.toNat].2]:=by
 unfold gvI at h;simp only [Bool.and_eq_true,beq_iff_eq,decide_eq_true_eq] at h;obtain ⟨⟨⟨h1,h2⟩,h3⟩,h4⟩:=h;have hl:k.toNat<ins.length:=by omega
 refine ⟨hl,Tm.ext h1 ?_⟩;rw [getD_at hl] at h3 h4;have h3:=(jA _ _).1 h3;have h4:=(jA _ _).1 h4
 match he:t.args,h2 with
 | [x,y],_=>
   rw [he] at h3 h4;show [x,y]=[_,_];rw [← h3,← h4];rfl
theorem NW:eY≠bC:=by decide
theorem Pe (hv:aK atoms rules=true) (h1:∀ x∈st,0≤x∧x<((ak atoms).length:Nat)) (h2:∀ x∈inp,0≤x∧x<((aU atoms names).length:Nat)) {p:Tm×Nat} (hp:p∈(ak atoms).zipIdx) :
  decide (dM (.mk eY [p.1]) 0 atoms∈gvF atoms names (ak atoms) (aU atoms names) st inp)=inI st (p.2:Nat):=by
 obtain ⟨i,hi,e⟩:=II hp;obtain ⟨hpl,ep⟩:=List.getElem?_eq_some_iff.1 (List.mk_mem_zipIdx_iff_getElem?.1 (show (p.1,p.2)∈_ from hp));rw [← e,Jl (jO hv) hi,Bool.eq_iff_iff,decide_eq_true_eq,yC];unfold inI;rw [List.any_eq_true];constructor
 ·rintro ⟨j,hj,ej,h⟩;have:i=j:=by omega
  subst this;rcases h with ⟨s,hs,h⟩ | ⟨k,hk,h⟩
  ·obtain ⟨hl,et⟩:=Ea (h1 s hs) h;rw [e] at et;have e3:p.1=(ak atoms)[s.toNat]:=(by injection et with _ e2;injection e2);have:=Nw hv hpl hl (ep.trans e3);refine ⟨s,hs,beq_iff_eq.2 ?_⟩;have:=h1 s hs;omega
  ·obtain ⟨hl,et⟩:=Eb (h2 k hk) h;rw [e] at et;injection et with e1 _;exact absurd e1 NW
 ·rintro ⟨s,hs,h⟩;have hs0:=h1 s hs;have es:s=((p.2:Nat):Int):=eq_of_beq h;refine ⟨i,hi,by omega,.inl ⟨s,hs,?_⟩⟩;unfold gvT;rw [e];simp only [Tm.name,Tm.args,beq_self_eq_true,Bool.true_and,List.length_cons,List.length_nil,decide_true];rw [jA,getD_at (show s.toNat<_ by omega)];simp only [es,Int.toNat_natCast];exact ep.symm
theorem Vr (hv:aK atoms rules=true) (hR:aX names=true) (h1:∀ x∈st,0≤x∧x<((ak atoms).length:Nat)) (h2:∀ x∈inp,0≤x∧x<((aU atoms names).length:Nat)) {p:In×Nat} (hp:p∈(aU atoms names).zipIdx) :
  decide (dM (.mk bC [dV names p.1.1,p.1.2]) 0 atoms∈gvF atoms names (ak atoms) (aU atoms names) st inp)=inI inp (p.2:Nat):=by
 obtain ⟨hpl,ep⟩:=List.getElem?_eq_some_iff.1 (List.mk_mem_zipIdx_iff_getElem?.1 (show (p.1,p.2)∈_ from hp));obtain ⟨i,hi,e,hr⟩:=yA hv hR (show p.1∈aU atoms names from ep ▸ List.getElem_mem hpl);rw [← e,Jl (jO hv) hi,Bool.eq_iff_iff,decide_eq_true_eq,yC];unfold inI;rw [List.any_eq_true];constructor
 ·rintro ⟨j,hj,ej,h⟩;have:i=j:=by omega
  subst this;rcases h with ⟨s,hs,h⟩ | ⟨k,hk,h⟩
  ·obtain ⟨hl,et⟩:=Ea (h1 s hs) h;rw [e] at et;injection et with e1 _;exact absurd e1.symm NW
  ·obtain ⟨hl,et⟩:=Eb (h2 k hk) h;rw [e] at et;injection et with _ e2;injection e2 with e3 e4;injection e4 with e5;obtain ⟨_,_,_,hr2⟩:=yA hv hR (List.getElem_mem hl);unfold dV at e3;rw [getD_at hr,getD_at hr2] at e3;have e6:=KY hR hr hr2 e3;have:=Vb hv hpl hl (by rw [ep];exact e6) (by rw [ep];exact e5);refine ⟨k,hk,beq_iff_eq.2 ?_⟩;have:=h2 k hk;omega
 ·rintro ⟨s,hs,h⟩;have hs0:=h2 s hs;have es:s=((p.2:Nat):Int):=eq_of_beq h;refine ⟨i,hi,by omega,.inr ⟨s,hs,?_⟩⟩;have e7:(aU atoms names).getD s.toNat (0,.mk [] [])=p.1:=by
   rw [getD_at (show s.toNat<_ by omega)];simp only [es,Int.toNat_natCast];exact ep
  unfold gvI;rw [e,e7];simp only [Tm.name,Tm.args,beq_self_eq_true,Bool.true_and,List.length_cons,List.length_nil,decide_true,Bool.and_eq_true];exact ⟨(jA _ _).2 rfl,(jA _ _).2 rfl⟩
variable {atoms names:List Tm} {rules:List Gr} {st inp rk facts:List Int} {nb ni:Nat}
theorem one_le {l:List Int} {p:Int→Bool} (h:l.Nodup) (h1:∀ x∈l,∀ y∈l,p x=true→p y=true→x=y):(l.filter p).length≤1:=by
 have hn:=h.filter p
 match he:l.filter p with
 | []=>exact Nat.zero_le _
 | [_]=>exact Nat.le_refl _
 | a::b::u=>
   exfalso;have ha:=List.mem_filter.1 (show a∈l.filter p by rw [he];simp);have hb:=List.mem_filter.1 (show b∈l.filter p by rw [he];simp);rw [he] at hn;have:=(List.nodup_cons.1 hn).1;rw [h1 a ha.1 b hb.1 ha.2 hb.2] at this;exact this (by simp)
theorem YR {l:List Int} {R:Int→Int→Prop} (h:l.length≤1):l.Pairwise R:=by
 match l,h with
 | [],_=>exact List.Pairwise.nil
 | [_],_=>exact List.pairwise_singleton _ _
theorem XJ (hv:aK atoms rules=true) (hR:aX names=true) (h1:∀ x∈st,0≤x∧x<((ak atoms).length:Nat)) (a1:st.Pairwise (·<·)) (h2:∀ x∈inp,0≤x∧x<((aU atoms names).length:Nat)) (a2:inp.Pairwise (·<·)) :
  (gvF atoms names (ak atoms) (aU atoms names) st inp).Pairwise (·<·):=by
 unfold gvF;rw [List.pairwise_flatMap];constructor
 ·rintro ⟨t,i⟩ _;apply YR;unfold l7;rw [List.length_append,List.length_map,List.length_map];have e1:(st.filter (gvT (ak atoms) t)).length≤1:=one_le (vg a1) fun x hx y hy px py=>by
   obtain ⟨lx,ex⟩:=Ea (h1 x hx) px;obtain ⟨ly,ey⟩:=Ea (h1 y hy) py;rw [ex] at ey;have e3:(ak atoms)[x.toNat]=(ak atoms)[y.toNat]:=(by injection ey with _ e2;injection e2);have:=Nw hv lx ly e3;have:=h1 x hx;have:=h1 y hy;omega
  have e2:(inp.filter (gvI names (aU atoms names) t)).length≤1:=one_le (vg a2) fun x hx y hy px py=>by
   obtain ⟨lx,ex⟩:=Eb (h2 x hx) px;obtain ⟨ly,ey⟩:=Eb (h2 y hy) py;rw [ex] at ey;injection ey with _ e2;injection e2 with e3 e4;injection e4 with e5;obtain ⟨_,_,_,r1⟩:=yA hv hR (List.getElem_mem lx);obtain ⟨_,_,_,r2⟩:=yA hv hR (List.getElem_mem ly);unfold dV at e3;rw [getD_at r1,getD_at r2] at e3;have:=Vb hv lx ly (KY hR r1 r2 e3) e5;have:=h2 x hx;have:=h2 y hy;omega
  by_cases he:t.name=eY
  ·have:inp.filter (gvI names (aU atoms names) t)=[]:=List.filter_eq_nil_iff.2 fun k hk hp=>by
    obtain ⟨_,e⟩:=Eb (h2 k hk) hp;rw [e] at he;exact NW he.symm
   dsimp only;rw [this,List.length_nil];omega
  ·have:st.filter (gvT (ak atoms) t)=[]:=List.filter_eq_nil_iff.2 fun k hk hp=>by
    obtain ⟨_,e⟩:=Ea (h1 k hk) hp;rw [e] at he;exact he rfl
   dsimp only;rw [this,List.length_nil];omega
 ·rw [List.pairwise_iff_getElem];intro i j hi hj hij x hx y hy;rw [List.getElem_zipIdx] at hx hy;have e1:=(uN.1 hx).1;have e2:=(uN.1 hy).1;dsimp only at e1 e2;omega
theorem XI {names bases:List Tm} {ins:List In}:∀ x∈gvF atoms names bases ins st inp,0≤x∧x<(atoms.length:Nat):=fun x hx=>by
 obtain ⟨i,hi,e,_⟩:=yC.1 hx;omega
theorem YS {n:Nat} {l:List Int} (h:∀ x∈l,0≤x∧x<(n:Nat)) (ha:l.Pairwise (·<·)):qM n l=true:=by
 unfold qM;refine wJ fun i hi=>?_
 rw [uF hi,Bool.and_eq_true];have:=h _ (List.getElem_mem hi);refine ⟨by unfold jJ;rw [Bool.and_eq_true,decide_eq_true_eq,decide_eq_true_eq];exact this,?_⟩;cases i with
 | zero=>rfl
 | succ i=>
   rw [fQ hi];exact decide_eq_true (List.pairwise_iff_getElem.1 ha i (i+1) (by omega) hi (by omega))
theorem SS (h1:∀ x∈st,0≤x∧x<((ak atoms).length:Nat)) (h2:∀ x∈inp,0≤x∧x<((aU atoms names).length:Nat)):∀ a∈gvF atoms names (ak atoms) (aU atoms names) st inp,Gvn atoms a:=fun a ha=>by
 obtain ⟨i,hi,e,h⟩:=yC.1 ha;refine ⟨i,hi,e,?_⟩;rw [getD_at hi];rcases h with ⟨s,hs,h⟩ | ⟨s,hs,h⟩
 ·rw [(Ea (h1 s hs) h).2];rfl
 ·rw [(Eb (h2 s hs) h).2];rfl
structure JS (st inp:List Int) (D:Int→Bool) (P:Int→Prop) (c:Cs):Prop where
 pre:cs0.1.1 <+: c.1.1
 ran:dR c.2 c.1.1.length
 val:∀ b,Vg st inp c.1.1 (bI c.2 b)=D b∨(bI c.2 b=0∧¬ P b)
theorem JS.add {D:Int→Bool} {P:Int→Prop} {c:Cs} (h:JS st inp D P c) {g:Gt} {a:Int} (hg:Hu st inp (valsF st inp c.1.1) g=D a):JS st inp D (fun b=>P b∨b=a) ((c.1.1++[g],c.1.2),gU c.2 a (c.1.1.length:Nat)):=by
 have h2:2≤c.1.1.length:=h.pre.length_le;refine ⟨h.pre.trans (List.prefix_append _ _),(h.ran.mono (by simp)).set ⟨by omega,by simp;omega⟩,fun b=>?_⟩;dsimp only;rw [oL];by_cases e:b=a
 ·rw [if_pos e];left;rw [J6,hg,e]
 ·rw [if_neg e];have:=h.ran.val (a:=b) (by omega);rcases h.val b with h | ⟨h,hp⟩
  ·left;rw [PZ this.1 this.2];exact h
  ·exact .inr ⟨h,fun k=>k.elim hp e⟩
theorem JS.mono {D:Int→Bool} {P Q:Int→Prop} {c:Cs} (h:JS st inp D P c) (hq:∀ b,Q b→P b):JS st inp D Q c:=⟨h.pre,h.ran,fun b=>(h.val b).imp id fun ⟨p,q⟩=>⟨p,fun k=>q (hq b k)⟩⟩
theorem JS.bases {D:Int→Bool}:∀ {l:List (Tm×Nat)} {P:Int→Prop} {c:Cs},JS st inp D P c→(∀ p∈l,D (dM (.mk eY [p.1]) 0 atoms)=inI st (p.2:Nat))→JS st inp D (fun b=>P b∨∃ p∈l,b=dM (.mk eY [p.1]) 0 atoms) (l.foldl (zZ atoms) c)
 | [],P,c,h,_=>h.mono fun b hb=>by
   rcases hb with hb | ⟨p,hp,_⟩
   ·exact hb
   ·cases hp
 | p::l,P,c,h,hd=>by
   rw [List.foldl_cons];have h1:=h.add (g:=(2,((p.2:Nat):Int),[])) (a:=dM (.mk eY [p.1]) 0 atoms) (by rw [hd p (by simp)];rfl);refine (JS.bases (l:=l) (c:=zZ atoms c p) h1 fun q hq=>hd q (by simp [hq])).mono fun b hb=>?_
   rcases hb with hb | ⟨q,hq,e⟩
   ·exact .inl (.inl hb)
   ·rcases List.mem_cons.1 hq with h | h
    ·subst h;exact .inl (.inr e)
    ·exact .inr ⟨q,h,e⟩
theorem JS.ins {D:Int→Bool} {roles:List Tm}:∀ {l:List (In×Nat)} {P:Int→Prop} {c:Cs},JS st inp D P c→(∀ p∈l,D (dM (.mk bC [dV roles p.1.1,p.1.2]) 0 atoms)=inI inp (p.2:Nat))→JS st inp D (fun b=>P b∨∃ p∈l,b=dM (.mk bC [dV roles p.1.1,p.1.2]) 0 atoms) (l.foldl (zX atoms roles) c)
 | [],P,c,h,_=>h.mono fun b hb=>by
   rcases hb with hb | ⟨p,hp,_⟩
   ·exact hb
   ·cases hp
 | p::l,P,c,h,hd=>by
   rw [List.foldl_cons];have h1:=h.add (g:=(3,((p.2:Nat):Int),[])) (a:=dM (.mk bC [dV roles p.1.1,p.1.2]) 0 atoms) (by rw [hd p (by simp)];rfl);refine (JS.ins (l:=l) (c:=zX atoms roles c p) h1 fun q hq=>hd q (by simp [hq])).mono fun b hb=>?_
   rcases hb with hb | ⟨q,hq,e⟩
   ·exact .inl (.inl hb)
   ·rcases List.mem_cons.1 hq with h | h
    ·subst h;exact .inl (.inr e)
    ·exact .inr ⟨q,h,e⟩
theorem Wu {v:Mi} {p:Tm×Nat} {b:Int}:bI (Go.Proofs.YtdonenoiehdahaaGreat.gG v p) b=bI v b:=by
 unfold Go.Proofs.YtdonenoiehdahaaGreat.gG;split
 ·rename_i h;rw [oL];split
  ·rename_i e;rw [Bool.and_eq_true] at h;unfold bI;rw [e];cases hg:jv v ((p.2:Nat):Int) with
   | none=>rfl
   | some k=>rw [hg] at h;exact absurd h.2 (by simp)
  ·rfl
 ·rfl
theorem H7:∀ {l:List (Tm×Nat)} {v:Mi} {b:Int},bI (l.foldl (Go.Proofs.YtdonenoiehdahaaGreat.gG) v) b=bI v b
 | [],_,_=>rfl
 | p::l,v,b=>by rw [List.foldl_cons,H7,Wu]
theorem OU (hv:aK atoms rules=true) (hR:aX names=true) (h1:∀ x∈st,0≤x∧x<((ak atoms).length:Nat)) (h2:∀ x∈inp,0≤x∧x<((aU atoms names).length:Nat)) :
  cs0.1.1 <+: (fA atoms names (ak atoms) (aU atoms names) cs0).1.1∧Know st inp (fA atoms names (ak atoms) (aU atoms names) cs0) (Gvn atoms) (fun b=>decide (b∈gvF atoms names (ak atoms) (aU atoms names) st inp)):=by
 have j0:JS st inp (fun b=>decide (b∈gvF atoms names (ak atoms) (aU atoms names) st inp)) (fun _=>False) cs0:=⟨List.prefix_refl _,(fun e he=>by cases he),fun b => .inr ⟨rfl,id⟩⟩;have j1:=JS.bases (l:=(ak atoms).zipIdx) (atoms:=atoms) j0 (fun p hp=>Pe hv h1 h2 hp);have j2:=JS.ins (roles:=names) (l:=(aU atoms names).zipIdx) (atoms:=atoms) j1 (fun p hp=>Vr hv hR h1 h2 hp);refine ⟨j2.pre,fun b hb=>?_⟩;show Vg st inp (gq atoms names (ak atoms) (aU atoms names) cs0).1.1 (bI (atoms.zipIdx.foldl (Go.Proofs.YtdonenoiehdahaaGreat.gG) (gq atoms names (ak atoms) (aU atoms names) cs0).2) b)=_;rw [H7];rcases j2.val b with h | ⟨h,hp⟩
 ·exact h
 ·have e0:Vg st inp (gq atoms names (ak atoms) (aU atoms names) cs0).1.1 (bI (gq atoms names (ak atoms) (aU atoms names) cs0).2 b)=false:=by
   rw [show bI (gq atoms names (ak atoms) (aU atoms names) cs0).2 b=0 from h];exact (VN j2.pre).1
  rw [e0];symm;rw [decide_eq_false_iff_not];intro hm;apply hp;obtain ⟨i,hi,rfl,hg⟩:=yC.1 hm;rcases hg with ⟨s,hs,hg⟩ | ⟨k,hk,hg⟩
  ·obtain ⟨hl,e⟩:=Ea (h1 s hs) hg;refine .inl (.inr ⟨((ak atoms)[s.toNat],s.toNat),List.mk_mem_zipIdx_iff_getElem?.2 (List.getElem?_eq_getElem hl),?_⟩);dsimp only;rw [← e,Jl (jO hv) hi];omega
  ·obtain ⟨hl,e⟩:=Eb (h2 k hk) hg;refine .inr ⟨((aU atoms names)[k.toNat],k.toNat),List.mk_mem_zipIdx_iff_getElem?.2 (List.getElem?_eq_getElem hl),?_⟩;dsimp only;rw [← e,Jl (jO hv) hi];omega
theorem Qj (hin:dZ atoms.length rules) {lv:Str→Nat} (hlv:dK (nmS atoms) (dX atoms rules [])=some lv):xC atoms.length (fF atoms lv) rules:=by
 have hst:=KF hlv;have hb:=fun (r:Gr) (hr:r∈rules)=>hin.body r hr
 have hh:=fun (r:Gr) (hr:r∈rules)=>hin.head r hr
 refine ⟨by unfold fF;rw [List.length_map],fun r hr=>⟨(hh r hr).1,by have:=hh r hr;omega⟩,fun r hr x hx=>?_,fun r hr x hx=>?_⟩
 ·have h1:=(hb r hr).1 x hx;have h2:=hh r hr;refine ⟨h1.1,by omega,?_⟩;rw [xI (by omega),xI (by omega)];have:=RF hst hr hx;omega
 ·have h1:=(hb r hr).2 x hx;have h2:=hh r hr;refine ⟨h1.1,by omega,?_⟩;rw [xI (by omega),xI (by omega)];have:=RG hst hr hx;omega
theorem OB (hin:dZ atoms.length rules) (hn:atoms.length≤64) {lv:Str→Nat} (hlv:dK (nmS atoms) (dX atoms rules [])=some lv) (hf:∀ a∈facts,0≤a∧a<(atoms.length:Nat)) :
  ∃ rk,mP atoms.length (fF atoms lv) rules facts rk∧jl atoms.length (fF atoms lv) rules facts (Bd (fF atoms lv)+1).toNat=rk:=by
 have hfit:=Qj hin hlv;have hsr:=CB hin hn hlv;obtain ⟨ht,_,_⟩:=qg (fF atoms lv) (-1);have hat:∀ a:Int,0≤a→a.toNat<atoms.length→rkI (fF atoms lv) a∈fF atoms lv:=fun a h0 h1=>by
  have hl:a.toNat<(fF atoms lv).length:=by rw [hfit.len];exact h1
  rw [uy hl];exact List.getElem_mem hl
 refine ⟨_,YQ hfit (fun a ha=>by have:=hf a ha;omega) (fun a h0 h1=>(hsr _ (hat a h0 h1)).1) (k:=(Bd (fF atoms lv)+1).toNat) (fun a h0 h1=>?_),OA (fun r hr x hx=>(hfit.pos r hr x hx).2.2) _⟩;have h3:=ht _ (hat a h0 h1);have h4:=(hsr _ (hat a h0 h1)).1;have h5:rkI (fF atoms lv) a≤Bd (fF atoms lv):=h3;omega
theorem Xm (hv:aK atoms rules=true) (hR:aX names=true) (hgv:rules.any (aZ atoms)=false) {lv:Str→Nat} (hlv:dK (nmS atoms) (dX atoms rules [])=some lv)
  (h1:∀ x∈st,0≤x∧x<((ak atoms).length:Nat)) (h2:∀ x∈inp,0≤x∧x<((aU atoms names).length:Nat))
  (hw:mP atoms.length (fF atoms lv) rules (gvF atoms names (ak atoms) (aU atoms names) st inp) rk) :
  cs0.1.1 <+: (csN atoms rules names (aQ (bg atoms.length (aA atoms.length rules)) atoms.length)).1.1 ∧
   Know st inp (csN atoms rules names (aQ (bg atoms.length (aA atoms.length rules)) atoms.length)) (fun b=>0≤b∧b.toNat<atoms.length) (mdl rk):=by
 have hin:=eP hv;have hfit:=Qj hin hlv;have hgv':∀ r∈rules,aZ atoms r=false:=fun r hr=>by
  have:=List.any_eq_false.1 hgv r hr
  simpa using this
 obtain ⟨hp,hk⟩:=OU (rules:=rules) hv hR h1 h2;have hfst:=AL atoms names (ak atoms) (aU atoms names) atoms.length;have hneg:(fA atoms names (ak atoms) (aU atoms names) cs0).1.2=[]:=sK _ _ _ _ _;unfold csN;rw [Jc hR];have:=O4 (st:=st) (inp:=inp) hin hfit hw hgv' (SS h1 h2) (c:=fA atoms names (ak atoms) (aU atoms names) cs0)
  ⟨hfst.inv,hp,fun b k hb=>by rw [hneg] at hb;cases hb⟩ hfst.ran (fun b hb=>by
   rw [Sr hfit.head hw hgv' hb];exact hk b hb)
 exact ⟨this.1.pre,this.2⟩
def inM (atoms:List Tm) (m:List Int) (u:Tm):Bool:=m.any fun x=>x==zn u 0 atoms&&decide (zn u 0 atoms≥0)
theorem Y8 {u:Tm} (hg:∀ t∈atoms,Grd t) (hu:Grd u) (hl:rk.length=atoms.length):inM atoms (holdL rk rk.length) u=(decide (0≤dM u 0 atoms)&&mdl rk (dM u 0 atoms)):=by
 unfold inM;rw [Qs hu hg];have hlt:∀ {l:List Tm} {i:Int},dM u i l<i+(l.length:Nat)∨dM u i l=-1:=fun {l}=>by
  induction l with
  | nil=>intro i;right;rfl
  | cons t l ih=>
    intro i;unfold dM;split
    ·left;simp;omega
    ·rcases ih (i:=i+1) with h | h
     ·left;simp;omega
     ·right;exact h
 have hk:=hlt (l:=atoms) (i:=0);generalize dM u 0 atoms=k at hk ⊢;rw [Bool.eq_iff_iff,List.any_eq_true,Bool.and_eq_true,decide_eq_true_eq,AA];constructor
 ·rintro ⟨x,hx,h⟩;rw [Bool.and_eq_true,decide_eq_true_eq] at h;obtain ⟨i,hi,rfl⟩:=List.mem_map.1 hx;have e:=eq_of_beq h.1;refine ⟨h.2,?_⟩;have:=(List.mem_filter.1 hi).2;unfold JF at this;rw [← e];exact of_decide_eq_true this
 ·rintro ⟨h0,h1⟩;refine ⟨k,List.mem_map.2 ⟨k.toNat,List.mem_filter.2 ⟨List.mem_range.2 (by omega),?_⟩,by omega⟩,by simp [h0]⟩;unfold JF;exact decide_eq_true h1
theorem Xa (hv:aK atoms rules=true) {c:Cs} {nm:Str} {args:List Tm} (hu:Grd (.mk nm args)) (hl:rk.length=atoms.length) (hp:cs0.1.1 <+: c.1.1) (hk:Know st inp c (fun b=>0≤b∧b.toNat<atoms.length) (mdl rk)) :
  Vg st inp c.1.1 (ofV atoms c.2 nm args)=inM atoms (holdL rk rk.length) (.mk nm args):=by
 rw [Y8 (O8 hv) hu hl];have hlt:∀ {l:List Tm} {i:Int},dM (.mk nm args) i l<i+(l.length:Nat)∨dM (.mk nm args) i l=-1:=fun {l}=>by
  induction l with
  | nil=>intro i;right;rfl
  | cons t l ih=>
    intro i;unfold dM;split
    ·left;simp;omega
    ·rcases ih (i:=i+1) with h | h
     ·left;simp;omega
     ·right;exact h
 have hk2:=hlt (l:=atoms) (i:=0);unfold ofV;generalize dM (.mk nm args) 0 atoms=k at hk2 ⊢;by_cases h:k<0
 ·rw [decide_eq_true h,decide_eq_false (by omega)];exact (VN hp).1
 ·rw [decide_eq_false h,decide_eq_true (show 0≤k by omega),Bool.true_and];exact hk k ⟨by omega,by omega⟩
theorem P9 {v:Bool}:∀ {k:Nat} {t:Tm},eG v k t=true→eG v (k+1) t=true
 | 0,t,h=>by cases t;simp [eG] at h
 | k+1,.mk n l,h=>by
   unfold eG at h ⊢;split at h
   ·rename_i hl;rw [if_pos hl];split at h
    ·rename_i h0;rw [if_pos h0];exact h
    ·rename_i h0;rw [if_neg h0];rw [Bool.and_eq_true,List.all_eq_true] at h ⊢;exact ⟨fun x hx=>P9 (h.1 x hx),h.2⟩
   ·cases h
theorem Qa {v:Bool} {k k':Nat} {t:Tm} (hk:k≤k') (h:eG v k t=true):eG v k' t=true:=by
 induction hk with
 | refl=>exact h
 | step _ ih=>exact P9 ih
theorem Ee {nm:Str} {args:List Tm} (hn:nameB nm=true) (hl:args.length≤4) (h:∀ t∈args,Grd t):Grd (.mk nm args):=by
 have:∃ k,∀ t∈args,eG false k t=true:=by
  clear hl
  induction args with
  | nil=>exact ⟨0,fun t ht=>by cases ht⟩
  | cons a l ih=>
    obtain ⟨k,hk⟩:=ih fun t ht=>h t (by simp [ht])
    obtain ⟨j,hj⟩:=h a (by simp);refine ⟨k+j,fun t ht=>?_⟩;rcases List.mem_cons.1 ht with rfl | ht
    ·exact Qa (by omega) hj
    ·exact Qa (by omega) (hk t ht)
 obtain ⟨k,hk⟩:=this;refine ⟨k+1,?_⟩;unfold eG;rw [if_pos hl];split
 ·rw [hn];rfl
 ·rw [Bool.and_eq_true,List.all_eq_true];exact ⟨hk,hn⟩
end Go.Proofs.YtdonenoiehdahaaGreat
