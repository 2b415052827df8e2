/- Walks: the order of terms, as the reference and as the program tells it. -/
import Derived.Test.YtoifejgcmkencaaGreatTmMAnd
set_option linter.unusedVariables false
set_option linter.unusedSimpArgs false
set_option linter.all false
namespace Go.Proofs.YtoifejgcmkencaaGreat
open Go Go.Abs Go.Own
attribute [local irreducible] WP
theorem Tryz.Qg (t:Tm):Pure Tryz.prog 52 [tD t.name t.args] [.int .i64 (dA t)]:=by
 unfold dA
 generalize t.name=n
 generalize t.args=l
 refine Pure.of_wp hT (nt:=_) (c:=_) Tryz.func52 rfl rfl rfl rfl (by kernel_rfl) ?_
 intro w0 ok0 β0
 repeat first | refine W1 ?_ | refine W3 ?_ | ((first | refine W2 hT hM [] ?_ | refine W4 ?_ | refine W5 ?_ | refine W6 ?_ | refine W7 ?_ rfl);conv=>whnf)
 (split<;>rename_i hb<;>(try rw [hb])<;>(conv=>whnf))
 ·have h0:l.length≠0:=by simp at hb;omega
  rw [if_neg h0]
  repeat first | refine W1 ?_ | refine W3 ?_ | ((first | refine W2 hT hM [] ?_ | refine W4 ?_ | refine W5 ?_ | refine W6 ?_ | refine W7 ?_ rfl);conv=>whnf)
 ·have h0:l.length=0:=by simp at hb;simp [hb]
  rw [if_pos h0]
  repeat first | refine W1 ?_ | refine W3 ?_ | ((first | refine W2 hT hM [] ?_ | refine W4 ?_ | refine W5 ?_ | refine W6 ?_ | refine W7 ?_ rfl);conv=>whnf)
  refine .inl ⟨_,Tryz.Kz n,.inl rfl,?_⟩
  conv=>whnf
  repeat first | refine W1 ?_ | refine W3 ?_ | ((first | refine W2 hT hM [] ?_ | refine W4 ?_ | refine W5 ?_ | refine W6 ?_ | refine W7 ?_ rfl);conv=>whnf)
  cases hn:dY n with
  | true=>
    repeat first | refine W1 ?_ | refine W3 ?_ | ((first | refine W2 hT hM [] ?_ | refine W4 ?_ | refine W5 ?_ | refine W6 ?_ | refine W7 ?_ rfl);conv=>whnf)
    rfl
  | false=>
    conv=>whnf
    repeat first | refine W1 ?_ | refine W3 ?_ | ((first | refine W2 hT hM [] ?_ | refine W4 ?_ | refine W5 ?_ | refine W6 ?_ | refine W7 ?_ rfl);conv=>whnf)
    refine .inl ⟨_,Tryz.BA n,.inl rfl,?_⟩
    conv=>whnf
    repeat first | refine W1 ?_ | refine W3 ?_ | ((first | refine W2 hT hM [] ?_ | refine W4 ?_ | refine W5 ?_ | refine W6 ?_ | refine W7 ?_ rfl);conv=>whnf)
    cases hv:wJ n with
    | true=>
      repeat first | refine W1 ?_ | refine W3 ?_ | ((first | refine W2 hT hM [] ?_ | refine W4 ?_ | refine W5 ?_ | refine W6 ?_ | refine W7 ?_ rfl);conv=>whnf)
      rfl
    | false=>
      conv=>whnf
      repeat first | refine W1 ?_ | refine W3 ?_ | ((first | refine W2 hT hM [] ?_ | refine W4 ?_ | refine W5 ?_ | refine W6 ?_ | refine W7 ?_ rfl);conv=>whnf)
      rfl
def VJ (x:Tm):Prop:=∀ y:Tm,okT x→okT y→Pure Tryz.prog 24 [tD x.name x.args,tD y.name y.args] [.int .i64 (zA x y)]
theorem Tryz.RF (l m:List Tm) (hl:l.length≤9223372036854775807) (ok1:∀ x∈l,okT x) (ok2:∀ x∈m,okT x) (h:∀ x∈l,VJ x):Pure Tryz.prog 55 [.list (l.map enT),.list (m.map enT)] [.int .i64 (iT l m)]:=by
 refine Pure.of_wp hT (nt:=_) (c:=_) Tryz.func55 rfl rfl rfl rfl (by kernel_rfl) ?_
 intro w0 ok0 β0
 repeat first | refine W1 ?_ | refine W3 ?_ | ((first | refine W2 hT hM [] ?_ | refine W4 ?_ | refine W5 ?_ | refine W6 ?_ | refine W7 ?_ rfl);conv=>whnf)
 refine WP.loop (α:=Nat) (fun i=>⟨[(0,.d (.list (l.map enT))),(1,.d (.list (m.map enT))),(5,.d (.int .i64 i))],[],[]⟩) (fun i=>(i≤l.length∧i≤m.length)∧iT l m=iT (l.drop i) (m.drop i)) (fun i=>l.length-i) 0 [] [] ?_ ?_ ?_
 ·((conv=>whnf);repeat (first | exact True.intro | (refine And.intro (by first | rfl | exact ⟨rfl,rfl,rfl⟩ | exact ⟨rfl,rfl,by simp⟩ | exact ⟨rfl,rfl⟩ | exact ⟨rfl,by simp⟩ | (simp;done) | (simp;omega)) ?_;conv=>whnf)))
 ·simp
 ·rintro i ⟨⟨hi,hj⟩,ht⟩
  repeat first | refine W1 ?_ | refine W3 ?_ | ((first | refine W2 hT hM [] ?_ | refine W4 ?_ | refine W5 ?_ | refine W6 ?_ | refine W7 ?_ rfl);conv=>whnf)
  (split<;>rename_i hb<;>(try rw [hb])<;>(conv=>whnf))
  ·have hlt:i<l.length:=by simpa using hb
   clear hb
   repeat first | refine W1 ?_ | refine W3 ?_ | ((first | refine W2 hT hM [] ?_ | refine W4 ?_ | refine W5 ?_ | refine W6 ?_ | refine W7 ?_ rfl);conv=>whnf)
   (split<;>rename_i hb<;>(try rw [hb])<;>(conv=>whnf))
   ·have hlm:i<m.length:=by simpa using hb
    clear hb
    rw [Eu hlt hlm] at ht
    repeat first | refine W1 ?_ | refine W3 ?_ | ((first | refine W2 hT hM [] ?_ | refine W4 ?_ | refine W5 ?_ | refine W6 ?_ | refine W7 ?_ rfl);conv=>whnf)
    refine ⟨by omega,_,vP hlt,rfl,?_⟩
    conv=>whnf
    refine ⟨by omega,_,vP hlm,rfl,?_⟩
    conv=>whnf
    refine .inl ⟨_,h _ (List.getElem_mem hlt) m[i] (ok1 _ (List.getElem_mem hlt)) (ok2 _ (List.getElem_mem hlm)),.inl rfl,?_⟩
    conv=>whnf
    repeat first | refine W1 ?_ | refine W3 ?_ | ((first | refine W2 hT hM [] ?_ | refine W4 ?_ | refine W5 ?_ | refine W6 ?_ | refine W7 ?_ rfl);conv=>whnf)
    (split<;>rename_i hb<;>(try rw [hb])<;>(conv=>whnf))
    ·have h0:zA l[i] m[i]≠0:=by simpa using hb
     rw [if_pos h0] at ht
     repeat first | refine W1 ?_ | refine W3 ?_ | ((first | refine W2 hT hM [] ?_ | refine W4 ?_ | refine W5 ?_ | refine W6 ?_ | refine W7 ?_ rfl);conv=>whnf)
     rw [ht]
    ·have h0:zA l[i] m[i]=0:=by simpa using hb
     rw [if_neg (by omega)] at ht
     repeat first | refine W1 ?_ | refine W3 ?_ | ((first | refine W2 hT hM [] ?_ | refine W4 ?_ | refine W5 ?_ | refine W6 ?_ | refine W7 ?_ rfl);conv=>whnf)
     refine ⟨by omega,?_⟩
     conv=>whnf
     refine ⟨i+1,[],[],?_,⟨⟨by omega,by omega⟩,ht⟩,by omega⟩
     ((conv=>whnf);repeat (first | exact True.intro | (refine And.intro (by first | rfl | exact ⟨rfl,rfl,rfl⟩ | exact ⟨rfl,rfl,by simp⟩ | exact ⟨rfl,rfl⟩ | exact ⟨rfl,by simp⟩ | (simp;done) | (simp;omega)) ?_;conv=>whnf)))
   ·have:i=m.length:=by simp at hb;omega
    repeat first | refine W1 ?_ | refine W3 ?_ | ((first | refine W2 hT hM [] ?_ | refine W4 ?_ | refine W5 ?_ | refine W6 ?_ | refine W7 ?_ rfl);conv=>whnf)
    refine .inl ⟨_,Tryz.sign _ _,.inl rfl,?_⟩
    conv=>whnf
    repeat first | refine W1 ?_ | refine W3 ?_ | ((first | refine W2 hT hM [] ?_ | refine W4 ?_ | refine W5 ?_ | refine W6 ?_ | refine W7 ?_ rfl);conv=>whnf)
    rw [ht,sQ (by omega) (by omega) (.inr this)]
    simp
  ·have:i=l.length:=by simp at hb;omega
   repeat first | refine W1 ?_ | refine W3 ?_ | ((first | refine W2 hT hM [] ?_ | refine W4 ?_ | refine W5 ?_ | refine W6 ?_ | refine W7 ?_ rfl);conv=>whnf)
   refine .inl ⟨_,Tryz.sign _ _,.inl rfl,?_⟩
   conv=>whnf
   repeat first | refine W1 ?_ | refine W3 ?_ | ((first | refine W2 hT hM [] ?_ | refine W4 ?_ | refine W5 ?_ | refine W6 ?_ | refine W7 ?_ rfl);conv=>whnf)
   rw [ht,sQ (by omega) (by omega) (.inl this)]
   simp
theorem Tryz.RD:∀ x:Tm,VJ x:=Tm.ind fun x ih y okx oky=>by
 have c1:=Tryz.Qg x
 have c2:=Tryz.Qg y
 have hl:=Tryz.RF x.args y.args (lM.1 okx).1 (lM.1 okx).2 (lM.1 oky).2 ih
 rw [Qe]
 clear ih okx oky
 generalize dA x=cx at *
 generalize dA y=cy at *
 generalize x.name=n at *
 generalize x.args=l at *
 generalize y.name=m at *
 generalize y.args=k at *
 refine Pure.of_wp hT (nt:=_) (c:=_) Tryz.func24 rfl rfl rfl rfl (by kernel_rfl) ?_
 intro w0 ok0 β0
 repeat first | refine W1 ?_ | refine W3 ?_ | ((first | refine W2 hT hM [] ?_ | refine W4 ?_ | refine W5 ?_ | refine W6 ?_ | refine W7 ?_ rfl);conv=>whnf)
 refine .inl ⟨_,c1,.inl rfl,?_⟩
 conv=>whnf
 refine .inl ⟨_,c2,.inl rfl,?_⟩
 conv=>whnf
 refine .inl ⟨_,Tryz.sign cx cy,.inl rfl,?_⟩
 conv=>whnf
 repeat first | refine W1 ?_ | refine W3 ?_ | ((first | refine W2 hT hM [] ?_ | refine W4 ?_ | refine W5 ?_ | refine W6 ?_ | refine W7 ?_ rfl);conv=>whnf)
 (split<;>rename_i hb<;>(try rw [hb])<;>(conv=>whnf))
 ·have h0:eU cx cy≠0:=by simpa using hb
  rw [if_pos h0]
  repeat first | refine W1 ?_ | refine W3 ?_ | ((first | refine W2 hT hM [] ?_ | refine W4 ?_ | refine W5 ?_ | refine W6 ?_ | refine W7 ?_ rfl);conv=>whnf)
 rw [if_neg (by simpa using hb)]
 clear hb
 repeat first | refine W1 ?_ | refine W3 ?_ | ((first | refine W2 hT hM [] ?_ | refine W4 ?_ | refine W5 ?_ | refine W6 ?_ | refine W7 ?_ rfl);conv=>whnf)
 refine .inl ⟨_,c1,.inl rfl,?_⟩
 conv=>whnf
 repeat first | refine W1 ?_ | refine W3 ?_ | ((first | refine W2 hT hM [] ?_ | refine W4 ?_ | refine W5 ?_ | refine W6 ?_ | refine W7 ?_ rfl);conv=>whnf)
 (split<;>rename_i hb<;>(try rw [hb])<;>(conv=>whnf))
 ·have h0:cx=0:=by simpa using hb
  rw [if_pos h0]
  repeat first | refine W1 ?_ | refine W3 ?_ | ((first | refine W2 hT hM [] ?_ | refine W4 ?_ | refine W5 ?_ | refine W6 ?_ | refine W7 ?_ rfl);conv=>whnf)
  refine .inl ⟨_,Tryz.Ou n,.inl rfl,?_⟩
  conv=>whnf
  refine .inl ⟨_,Tryz.Ou m,.inl rfl,?_⟩
  conv=>whnf
  refine .inl ⟨_,Tryz.sign _ _,.inl rfl,?_⟩
  conv=>whnf
  repeat first | refine W1 ?_ | refine W3 ?_ | ((first | refine W2 hT hM [] ?_ | refine W4 ?_ | refine W5 ?_ | refine W6 ?_ | refine W7 ?_ rfl);conv=>whnf)
 rw [if_neg (by simpa using hb)]
 clear hb
 repeat first | refine W1 ?_ | refine W3 ?_ | ((first | refine W2 hT hM [] ?_ | refine W4 ?_ | refine W5 ?_ | refine W6 ?_ | refine W7 ?_ rfl);conv=>whnf)
 (split<;>rename_i hb<;>(try rw [hb])<;>(conv=>whnf))
 ·have h0:l.length≠k.length:=by simp at hb;omega
  rw [if_pos h0]
  repeat first | refine W1 ?_ | refine W3 ?_ | ((first | refine W2 hT hM [] ?_ | refine W4 ?_ | refine W5 ?_ | refine W6 ?_ | refine W7 ?_ rfl);conv=>whnf)
  refine .inl ⟨_,Tryz.sign _ _,.inl rfl,?_⟩
  conv=>whnf
  repeat first | refine W1 ?_ | refine W3 ?_ | ((first | refine W2 hT hM [] ?_ | refine W4 ?_ | refine W5 ?_ | refine W6 ?_ | refine W7 ?_ rfl);conv=>whnf)
  simp
 have h0:l.length=k.length:=by simp at hb;omega
 rw [if_neg (by omega)]
 clear hb
 repeat first | refine W1 ?_ | refine W3 ?_ | ((first | refine W2 hT hM [] ?_ | refine W4 ?_ | refine W5 ?_ | refine W6 ?_ | refine W7 ?_ rfl);conv=>whnf)
 refine .inl ⟨_,Tryz.Qz n m,.inl rfl,?_⟩
 conv=>whnf
 repeat first | refine W1 ?_ | refine W3 ?_ | ((first | refine W2 hT hM [] ?_ | refine W4 ?_ | refine W5 ?_ | refine W6 ?_ | refine W7 ?_ rfl);conv=>whnf)
 (split<;>rename_i hb<;>(try rw [hb])<;>(conv=>whnf))
 ·have h1:dX n m≠0:=by simpa using hb
  rw [if_pos h1]
  repeat first | refine W1 ?_ | refine W3 ?_ | ((first | refine W2 hT hM [] ?_ | refine W4 ?_ | refine W5 ?_ | refine W6 ?_ | refine W7 ?_ rfl);conv=>whnf)
 rw [if_neg (by simpa using hb)]
 clear hb
 repeat first | refine W1 ?_ | refine W3 ?_ | ((first | refine W2 hT hM [] ?_ | refine W4 ?_ | refine W5 ?_ | refine W6 ?_ | refine W7 ?_ rfl);conv=>whnf)
 refine .inl ⟨_,hl,.inl rfl,?_⟩
 conv=>whnf
 repeat first | refine W1 ?_ | refine W3 ?_ | ((first | refine W2 hT hM [] ?_ | refine W4 ?_ | refine W5 ?_ | refine W6 ?_ | refine W7 ?_ rfl);conv=>whnf)
def kV (t:Tm):Int:=if dA t=0 then lg t.name else 0
def kN (t:Tm):Str:=if dA t=0 then [] else t.name
def Uf (t:Tm):D := .agg [.int .i64 (dA t),.int .i64 (kV t),.int .i64 t.args.length,.str (kN t)]
theorem Tryz.kindOf (t:Tm):Pure Tryz.prog 91 [tD t.name t.args] [Uf t]:=by
 unfold Uf kV kN dA
 generalize t.name=n
 generalize t.args=l
 refine Pure.of_wp hT (nt:=_) (c:=_) Tryz.func91 rfl rfl rfl rfl (by kernel_rfl) ?_
 intro w0 ok0 β0
 repeat first | refine W1 ?_ | refine W3 ?_ | ((first | refine W2 hT hM [] ?_ | refine W4 ?_ | refine W5 ?_ | refine W6 ?_ | refine W7 ?_ rfl);conv=>whnf)
 (split<;>rename_i hb<;>(try rw [hb])<;>(conv=>whnf))
 ·have h0:l.length≠0:=by simp at hb;omega
  rw [if_neg h0]
  repeat first | refine W1 ?_ | refine W3 ?_ | ((first | refine W2 hT hM [] ?_ | refine W4 ?_ | refine W5 ?_ | refine W6 ?_ | refine W7 ?_ rfl);conv=>whnf)
  (repeat (refine ⟨by first | rfl | omega,?_⟩;conv=>whnf))
  repeat first | refine W1 ?_ | refine W3 ?_ | ((first | refine W2 hT hM [] ?_ | refine W4 ?_ | refine W5 ?_ | refine W6 ?_ | refine W7 ?_ rfl);conv=>whnf)
  simp
 ·have h0:l.length=0:=by simp at hb;simp [hb]
  rw [if_pos h0]
  repeat first | refine W1 ?_ | refine W3 ?_ | ((first | refine W2 hT hM [] ?_ | refine W4 ?_ | refine W5 ?_ | refine W6 ?_ | refine W7 ?_ rfl);conv=>whnf)
  refine .inl ⟨_,Tryz.number n,.inl rfl,?_⟩
  conv=>whnf
  repeat first | refine W1 ?_ | refine W3 ?_ | ((first | refine W2 hT hM [] ?_ | refine W4 ?_ | refine W5 ?_ | refine W6 ?_ | refine W7 ?_ rfl);conv=>whnf)
  cases hn:dY n with
  | true=>
    conv=>whnf
    repeat first | refine W1 ?_ | refine W3 ?_ | ((first | refine W2 hT hM [] ?_ | refine W4 ?_ | refine W5 ?_ | refine W6 ?_ | refine W7 ?_ rfl);conv=>whnf)
    (repeat (refine ⟨by first | rfl | omega,?_⟩;conv=>whnf))
    repeat first | refine W1 ?_ | refine W3 ?_ | ((first | refine W2 hT hM [] ?_ | refine W4 ?_ | refine W5 ?_ | refine W6 ?_ | refine W7 ?_ rfl);conv=>whnf)
    simp [h0]
  | false=>
    conv=>whnf
    repeat first | refine W1 ?_ | refine W3 ?_ | ((first | refine W2 hT hM [] ?_ | refine W4 ?_ | refine W5 ?_ | refine W6 ?_ | refine W7 ?_ rfl);conv=>whnf)
    refine .inl ⟨_,Tryz.variable n,.inl rfl,?_⟩
    conv=>whnf
    repeat first | refine W1 ?_ | refine W3 ?_ | ((first | refine W2 hT hM [] ?_ | refine W4 ?_ | refine W5 ?_ | refine W6 ?_ | refine W7 ?_ rfl);conv=>whnf)
    cases hv:wJ n with
    | true=>
      conv=>whnf
      repeat first | refine W1 ?_ | refine W3 ?_ | ((first | refine W2 hT hM [] ?_ | refine W4 ?_ | refine W5 ?_ | refine W6 ?_ | refine W7 ?_ rfl);conv=>whnf)
      (repeat (refine ⟨by first | rfl | omega,?_⟩;conv=>whnf))
      repeat first | refine W1 ?_ | refine W3 ?_ | ((first | refine W2 hT hM [] ?_ | refine W4 ?_ | refine W5 ?_ | refine W6 ?_ | refine W7 ?_ rfl);conv=>whnf)
      simp [h0]
    | false=>
      conv=>whnf
      repeat first | refine W1 ?_ | refine W3 ?_ | ((first | refine W2 hT hM [] ?_ | refine W4 ?_ | refine W5 ?_ | refine W6 ?_ | refine W7 ?_ rfl);conv=>whnf)
      (repeat (refine ⟨by first | rfl | omega,?_⟩;conv=>whnf))
      repeat first | refine W1 ?_ | refine W3 ?_ | ((first | refine W2 hT hM [] ?_ | refine W4 ?_ | refine W5 ?_ | refine W6 ?_ | refine W7 ?_ rfl);conv=>whnf)
      simp [h0]
theorem Tryz.within (v:Bool):∀ (k:Nat),k≤1000→∀ t:Tm,Pure Tryz.prog 103 [tD t.name t.args,.int .i64 k,.bool v] [.bool (pU v k t)]
 | 0,_,t=>by
   obtain ⟨n,l⟩:=t
   refine Pure.of_wp hT (nt:=_) (c:=_) Tryz.func103 rfl rfl rfl rfl (by kernel_rfl) ?_
   intro w0 ok0 β0
   repeat first | refine W1 ?_ | refine W3 ?_ | ((first | refine W2 hT hM [] ?_ | refine W4 ?_ | refine W5 ?_ | refine W6 ?_ | refine W7 ?_ rfl);conv=>whnf)
   rw [pU]
 | k+1,hk,t=>by
   have ih:=Tryz.within v k (by omega)
   rw [Ot]
   generalize t.name=n
   generalize t.args=l
   refine Pure.of_wp hT (nt:=_) (c:=_) Tryz.func103 rfl rfl rfl rfl (by kernel_rfl) ?_
   intro w0 ok0 β0
   repeat first | refine W1 ?_ | refine W3 ?_ | ((first | refine W2 hT hM [] ?_ | refine W4 ?_ | refine W5 ?_ | refine W6 ?_ | refine W7 ?_ rfl);conv=>whnf)
   rw [decide_eq_false (p:=(((k+1:Nat):Int)<1)) (by omega)]
   conv=>whnf
   repeat first | refine W1 ?_ | refine W3 ?_ | ((first | refine W2 hT hM [] ?_ | refine W4 ?_ | refine W5 ?_ | refine W6 ?_ | refine W7 ?_ rfl);conv=>whnf)
   (split<;>rename_i hb<;>(try rw [hb])<;>(conv=>whnf))
   ·have h4:¬ l.length≤4:=by simp at hb;omega
    rw [if_neg h4]
    repeat first | refine W1 ?_ | refine W3 ?_ | ((first | refine W2 hT hM [] ?_ | refine W4 ?_ | refine W5 ?_ | refine W6 ?_ | refine W7 ?_ rfl);conv=>whnf)
   ·have h4:l.length≤4:=by simp at hb;omega
    clear hb
    rw [if_pos h4]
    repeat first | refine W1 ?_ | refine W3 ?_ | ((first | refine W2 hT hM [] ?_ | refine W4 ?_ | refine W5 ?_ | refine W6 ?_ | refine W7 ?_ rfl);conv=>whnf)
    (split<;>rename_i hb<;>(try rw [hb])<;>(conv=>whnf))
    ·have h0:l.length=0:=by simp at hb;simp [hb]
     rw [if_pos h0]
     repeat first | refine W1 ?_ | refine W3 ?_ | ((first | refine W2 hT hM [] ?_ | refine W4 ?_ | refine W5 ?_ | refine W6 ?_ | refine W7 ?_ rfl);conv=>whnf)
     refine .inl ⟨_,Tryz.name n,.inl rfl,?_⟩
     conv=>whnf
     cases h1:nameB n with
     | true=>
       conv=>whnf
       repeat first | refine W1 ?_ | refine W3 ?_ | ((first | refine W2 hT hM [] ?_ | refine W4 ?_ | refine W5 ?_ | refine W6 ?_ | refine W7 ?_ rfl);conv=>whnf)
       rfl
     | false=>
       conv=>whnf
       refine .inl ⟨_,Tryz.V8 n,.inl rfl,?_⟩
       conv=>whnf
       cases h2:dY n with
       | true=>
         conv=>whnf
         repeat first | refine W1 ?_ | refine W3 ?_ | ((first | refine W2 hT hM [] ?_ | refine W4 ?_ | refine W5 ?_ | refine W6 ?_ | refine W7 ?_ rfl);conv=>whnf)
         rfl
       | false=>
         conv=>whnf
         cases v with
         | false=>
           conv=>whnf
           repeat first | refine W1 ?_ | refine W3 ?_ | ((first | refine W2 hT hM [] ?_ | refine W4 ?_ | refine W5 ?_ | refine W6 ?_ | refine W7 ?_ rfl);conv=>whnf)
           rfl
         | true=>
           conv=>whnf
           refine .inl ⟨_,Tryz.variable n,.inl rfl,?_⟩
           conv=>whnf
           repeat first | refine W1 ?_ | refine W3 ?_ | ((first | refine W2 hT hM [] ?_ | refine W4 ?_ | refine W5 ?_ | refine W6 ?_ | refine W7 ?_ rfl);conv=>whnf)
           rfl
    ·have h0:l.length≠0:=by simp at hb;simpa using hb
     rw [if_neg h0]
     repeat first | refine W1 ?_ | refine W3 ?_ | ((first | refine W2 hT hM [] ?_ | refine W4 ?_ | refine W5 ?_ | refine W6 ?_ | refine W7 ?_ rfl);conv=>whnf)
     refine WP.loop (α:=Nat) (fun i=>⟨[(1,.d (.int .i64 ((k+1:Nat):Int))),(2,.d (.bool v)),(3,.d (.ref [.str n,.list (l.map enT)] 0)),(38,.d (.list (l.map enT))),(39,.d (.int .i64 l.length)),(40,.d (.int .i64 i))],[],[]⟩) (fun i=>i≤l.length∧(l.take i).all (pU v k)=true) (fun i=>l.length-i) 0 [] [] ?_ ?_ ?_
     ·((conv=>whnf);repeat (first | exact True.intro | (refine And.intro (by first | rfl | exact ⟨rfl,rfl,rfl⟩ | exact ⟨rfl,rfl,by simp⟩ | exact ⟨rfl,rfl⟩ | exact ⟨rfl,by simp⟩ | (simp;done) | (simp;omega)) ?_;conv=>whnf)))
     ·simp
     ·rintro i ⟨hi,ht⟩
      repeat first | refine W1 ?_ | refine W3 ?_ | ((first | refine W2 hT hM [] ?_ | refine W4 ?_ | refine W5 ?_ | refine W6 ?_ | refine W7 ?_ rfl);conv=>whnf)
      (split<;>rename_i hb<;>(try rw [hb])<;>(conv=>whnf))
      ·have hlt:i<l.length:=by simpa using hb
       clear hb
       repeat first | refine W1 ?_ | refine W3 ?_ | ((first | refine W2 hT hM [] ?_ | refine W4 ?_ | refine W5 ?_ | refine W6 ?_ | refine W7 ?_ rfl);conv=>whnf)
       refine ⟨by omega,_,vP hlt,rfl,?_⟩
       conv=>whnf
       repeat first | refine W1 ?_ | refine W3 ?_ | ((first | refine W2 hT hM [] ?_ | refine W4 ?_ | refine W5 ?_ | refine W6 ?_ | refine W7 ?_ rfl);conv=>whnf)
       refine ⟨by omega,?_⟩
       rw [show ((k+1:Nat):Int)-1=(k:Nat) by omega]
       conv=>whnf
       refine .inl ⟨_,ih l[i],.inl rfl,?_⟩
       conv=>whnf
       cases h1:pU v k l[i] with
       | true=>
         conv=>whnf
         repeat first | refine W1 ?_ | refine W3 ?_ | ((first | refine W2 hT hM [] ?_ | refine W4 ?_ | refine W5 ?_ | refine W6 ?_ | refine W7 ?_ rfl);conv=>whnf)
         refine ⟨by omega,?_⟩
         conv=>whnf
         refine ⟨i+1,[],[],?_,⟨by omega,Ht hlt ht h1⟩,by omega⟩
         ((conv=>whnf);repeat (first | exact True.intro | (refine And.intro (by first | rfl | exact ⟨rfl,rfl,rfl⟩ | exact ⟨rfl,rfl,by simp⟩ | exact ⟨rfl,rfl⟩ | exact ⟨rfl,by simp⟩ | (simp;done) | (simp;omega)) ?_;conv=>whnf)))
       | false=>
         conv=>whnf
         repeat first | refine W1 ?_ | refine W3 ?_ | ((first | refine W2 hT hM [] ?_ | refine W4 ?_ | refine W5 ?_ | refine W6 ?_ | refine W7 ?_ rfl);conv=>whnf)
         rw [LX hlt h1];rfl
      ·have:i=l.length:=by simp at hb;omega
       subst this
       rw [List.take_length] at ht
       repeat first | refine W1 ?_ | refine W3 ?_ | ((first | refine W2 hT hM [] ?_ | refine W4 ?_ | refine W5 ?_ | refine W6 ?_ | refine W7 ?_ rfl);conv=>whnf)
       refine .inl ⟨_,Tryz.name n,.inl rfl,?_⟩
       conv=>whnf
       repeat first | refine W1 ?_ | refine W3 ?_ | ((first | refine W2 hT hM [] ?_ | refine W4 ?_ | refine W5 ?_ | refine W6 ?_ | refine W7 ?_ rfl);conv=>whnf)
       rw [ht];rfl
theorem Tryz.WM (t:Tm):Pure Tryz.prog 71 [tD t.name t.args] [.bool (pU false 4 t)]:=by
 have h:=Tryz.within false 4 (by omega) t
 generalize t.name=n at *
 generalize t.args=l at *
 refine Pure.of_wp hT (nt:=_) (c:=_) Tryz.func71 rfl rfl rfl rfl (by kernel_rfl) ?_
 intro w0 ok0 β0
 repeat first | refine W1 ?_ | refine W3 ?_ | ((first | refine W2 hT hM [] ?_ | refine W4 ?_ | refine W5 ?_ | refine W6 ?_ | refine W7 ?_ rfl);conv=>whnf)
 refine .inl ⟨_,h,.inl rfl,?_⟩
 conv=>whnf
 repeat first | refine W1 ?_ | refine W3 ?_ | ((first | refine W2 hT hM [] ?_ | refine W4 ?_ | refine W5 ?_ | refine W6 ?_ | refine W7 ?_ rfl);conv=>whnf)
def adE (x:Tm):Prop:=∀ y:Tm,okT x→okT y→Pure Tryz.prog 62 [tD x.name x.args,tD y.name y.args] [.int .i64 (zA x y)]
theorem Tryz.Xg (l m:List Tm) (hl:l.length≤9223372036854775807) (ok1:∀ x∈l,okT x) (ok2:∀ x∈m,okT x) (h:∀ x∈l,adE x):Pure Tryz.prog 92 [.list (l.map enT),.list (m.map enT)] [.int .i64 (iT l m)]:=by
 refine Pure.of_wp hT (nt:=_) (c:=_) Tryz.func92 rfl rfl rfl rfl (by kernel_rfl) ?_
 intro w0 ok0 β0
 repeat first | refine W1 ?_ | refine W3 ?_ | ((first | refine W2 hT hM [] ?_ | refine W4 ?_ | refine W5 ?_ | refine W6 ?_ | refine W7 ?_ rfl);conv=>whnf)
 refine WP.loop (α:=Nat) (fun i=>⟨[(0,.d (.list (l.map enT))),(1,.d (.list (m.map enT))),(5,.d (.int .i64 i))],[],[]⟩) (fun i=>(i≤l.length∧i≤m.length)∧iT l m=iT (l.drop i) (m.drop i)) (fun i=>l.length-i) 0 [] [] ?_ ?_ ?_
 ·((conv=>whnf);repeat (first | exact True.intro | (refine And.intro (by first | rfl | exact ⟨rfl,rfl,rfl⟩ | exact ⟨rfl,rfl,by simp⟩ | exact ⟨rfl,rfl⟩ | exact ⟨rfl,by simp⟩ | (simp;done) | (simp;omega)) ?_;conv=>whnf)))
 ·simp
 ·rintro i ⟨⟨hi,hj⟩,ht⟩
  repeat first | refine W1 ?_ | refine W3 ?_ | ((first | refine W2 hT hM [] ?_ | refine W4 ?_ | refine W5 ?_ | refine W6 ?_ | refine W7 ?_ rfl);conv=>whnf)
  (split<;>rename_i hb<;>(try rw [hb])<;>(conv=>whnf))
  ·have hlt:i<l.length:=by simpa using hb
   clear hb
   repeat first | refine W1 ?_ | refine W3 ?_ | ((first | refine W2 hT hM [] ?_ | refine W4 ?_ | refine W5 ?_ | refine W6 ?_ | refine W7 ?_ rfl);conv=>whnf)
   (split<;>rename_i hb<;>(try rw [hb])<;>(conv=>whnf))
   ·have hlm:i<m.length:=by simpa using hb
    clear hb
    rw [Eu hlt hlm] at ht
    repeat first | refine W1 ?_ | refine W3 ?_ | ((first | refine W2 hT hM [] ?_ | refine W4 ?_ | refine W5 ?_ | refine W6 ?_ | refine W7 ?_ rfl);conv=>whnf)
    refine ⟨by omega,_,vP hlt,rfl,?_⟩
    conv=>whnf
    refine ⟨by omega,_,vP hlm,rfl,?_⟩
    conv=>whnf
    refine .inl ⟨_,h _ (List.getElem_mem hlt) m[i] (ok1 _ (List.getElem_mem hlt)) (ok2 _ (List.getElem_mem hlm)),.inl rfl,?_⟩
    conv=>whnf
    repeat first | refine W1 ?_ | refine W3 ?_ | ((first | refine W2 hT hM [] ?_ | refine W4 ?_ | refine W5 ?_ | refine W6 ?_ | refine W7 ?_ rfl);conv=>whnf)
    (split<;>rename_i hb<;>(try rw [hb])<;>(conv=>whnf))
    ·have h0:zA l[i] m[i]≠0:=by simpa using hb
     rw [if_pos h0] at ht
     repeat first | refine W1 ?_ | refine W3 ?_ | ((first | refine W2 hT hM [] ?_ | refine W4 ?_ | refine W5 ?_ | refine W6 ?_ | refine W7 ?_ rfl);conv=>whnf)
     rw [ht]
    ·have h0:zA l[i] m[i]=0:=by simpa using hb
     rw [if_neg (by omega)] at ht
     repeat first | refine W1 ?_ | refine W3 ?_ | ((first | refine W2 hT hM [] ?_ | refine W4 ?_ | refine W5 ?_ | refine W6 ?_ | refine W7 ?_ rfl);conv=>whnf)
     refine ⟨by omega,?_⟩
     conv=>whnf
     refine ⟨i+1,[],[],?_,⟨⟨by omega,by omega⟩,ht⟩,by omega⟩
     ((conv=>whnf);repeat (first | exact True.intro | (refine And.intro (by first | rfl | exact ⟨rfl,rfl,rfl⟩ | exact ⟨rfl,rfl,by simp⟩ | exact ⟨rfl,rfl⟩ | exact ⟨rfl,by simp⟩ | (simp;done) | (simp;omega)) ?_;conv=>whnf)))
   ·have:i=m.length:=by simp at hb;omega
    repeat first | refine W1 ?_ | refine W3 ?_ | ((first | refine W2 hT hM [] ?_ | refine W4 ?_ | refine W5 ?_ | refine W6 ?_ | refine W7 ?_ rfl);conv=>whnf)
    refine .inl ⟨_,Tryz.order _ _,.inl rfl,?_⟩
    conv=>whnf
    repeat first | refine W1 ?_ | refine W3 ?_ | ((first | refine W2 hT hM [] ?_ | refine W4 ?_ | refine W5 ?_ | refine W6 ?_ | refine W7 ?_ rfl);conv=>whnf)
    rw [ht,sQ (by omega) (by omega) (.inr this)]
    simp
  ·have:i=l.length:=by simp at hb;omega
   repeat first | refine W1 ?_ | refine W3 ?_ | ((first | refine W2 hT hM [] ?_ | refine W4 ?_ | refine W5 ?_ | refine W6 ?_ | refine W7 ?_ rfl);conv=>whnf)
   refine .inl ⟨_,Tryz.order _ _,.inl rfl,?_⟩
   conv=>whnf
   repeat first | refine W1 ?_ | refine W3 ?_ | ((first | refine W2 hT hM [] ?_ | refine W4 ?_ | refine W5 ?_ | refine W6 ?_ | refine W7 ?_ rfl);conv=>whnf)
   rw [ht,sQ (by omega) (by omega) (.inl this)]
   simp
theorem Dq (t:Tm):(dA t=0∧t.args.length=0)∨dA t≠0:=by
 unfold dA
 by_cases h:t.args.length=0
 ·rw [if_pos h]
  by_cases h1:dY t.name=true
  ·rw [if_pos h1];exact .inl ⟨rfl,h⟩
  ·rw [if_neg h1]
   right;split<;>decide
 ·rw [if_neg h];right;decide
theorem G9 (a:Int):eU a a=0:=by unfold eU;rw [if_neg (by omega),if_neg (by omega)]
theorem Tryz.compare:∀ x:Tm,adE x:=Tm.ind fun x ih y okx oky=>by
 have c1:=Tryz.kindOf x
 have c2:=Tryz.kindOf y
 have hl:=Tryz.Xg x.args y.args (lM.1 okx).1 (lM.1 okx).2 (lM.1 oky).2 ih
 have hx:=Dq x
 have hy:=Dq y
 rw [Qe]
 unfold Uf kV kN at c1 c2
 clear ih okx oky
 generalize dA x=cx at *
 generalize dA y=cy at *
 generalize x.name=n at *
 generalize x.args=l at *
 generalize y.name=m at *
 generalize y.args=k at *
 generalize hvx:(if cx=0 then lg n else 0)=vx at *
 generalize hvy:(if cy=0 then lg m else 0)=vy at *
 generalize hnx:(if cx=0 then [] else n)=nx at *
 generalize hny:(if cy=0 then [] else m)=ny at *
 refine Pure.of_wp hT (nt:=_) (c:=_) Tryz.func62 rfl rfl rfl rfl (by kernel_rfl) ?_
 intro w0 ok0 β0
 repeat first | refine W1 ?_ | refine W3 ?_ | ((first | refine W2 hT hM [] ?_ | refine W4 ?_ | refine W5 ?_ | refine W6 ?_ | refine W7 ?_ rfl);conv=>whnf)
 refine .inl ⟨_,c1,.inl rfl,?_⟩
 conv=>whnf
 refine .inl ⟨_,c2,.inl rfl,?_⟩
 conv=>whnf
 repeat first | refine W1 ?_ | refine W3 ?_ | ((first | refine W2 hT hM [] ?_ | refine W4 ?_ | refine W5 ?_ | refine W6 ?_ | refine W7 ?_ rfl);conv=>whnf)
 have he:aO [.int .i64 cx,.int .i64 vx,.int .i64 (l.length:Int),.str nx] [.int .i64 cy,.int .i64 vy,.int .i64 (k.length:Int),.str ny]=(decide (cx=cy)&&(decide (vx=vy)&&(decide (l.length=k.length)&&decide (nx=ny)))):=by
  simp only [aO,eq1]
  by_cases h1:cx=cy<;>by_cases h2:vx=vy<;>by_cases h3:l.length=k.length<;>by_cases h4:nx=ny<;>(simp [h1,h2,h3,h4]<;>omega)
 rw [he]
 by_cases h1:cx=cy
 ·subst h1
  rw [if_neg (by simp [G9])]
  by_cases h0:cx=0
  ·have hlx:l.length=0:=hx.elim (fun h=>h.2) (fun h=>absurd h0 h)
   have hly:k.length=0:=hy.elim (fun h=>h.2) (fun h=>absurd h0 h)
   rw [if_pos h0]
   rw [if_pos h0] at hvx hvy hnx hny
   subst hvx;subst hvy;subst hnx;subst hny
   by_cases h2:lg n=lg m
   ·rw [decide_eq_true rfl,decide_eq_true h2,decide_eq_true (hlx.trans hly.symm),decide_eq_true rfl]
    conv=>whnf
    repeat first | refine W1 ?_ | refine W3 ?_ | ((first | refine W2 hT hM [] ?_ | refine W4 ?_ | refine W5 ?_ | refine W6 ?_ | refine W7 ?_ rfl);conv=>whnf)
    refine .inl ⟨_,hl,.inl rfl,?_⟩
    conv=>whnf
    repeat first | refine W1 ?_ | refine W3 ?_ | ((first | refine W2 hT hM [] ?_ | refine W4 ?_ | refine W5 ?_ | refine W6 ?_ | refine W7 ?_ rfl);conv=>whnf)
    have e1:l=[]:=List.length_eq_zero_iff.1 hlx
    have e2:k=[]:=List.length_eq_zero_iff.1 hly
    rw [e1,e2,h2,G9,iT]
   ·rw [decide_eq_true rfl,decide_eq_false h2]
    conv=>whnf
    repeat first | refine W1 ?_ | refine W3 ?_ | ((first | refine W2 hT hM [] ?_ | refine W4 ?_ | refine W5 ?_ | refine W6 ?_ | refine W7 ?_ rfl);conv=>whnf)
    rw [show (cx != cx)=false by simp]
    conv=>whnf
    repeat first | refine W1 ?_ | refine W3 ?_ | ((first | refine W2 hT hM [] ?_ | refine W4 ?_ | refine W5 ?_ | refine W6 ?_ | refine W7 ?_ rfl);conv=>whnf)
    rw [show (lg n != lg m)=true by simpa using h2]
    conv=>whnf
    repeat first | refine W1 ?_ | refine W3 ?_ | ((first | refine W2 hT hM [] ?_ | refine W4 ?_ | refine W5 ?_ | refine W6 ?_ | refine W7 ?_ rfl);conv=>whnf)
    refine .inl ⟨_,Tryz.order _ _,.inl rfl,?_⟩
    conv=>whnf
    repeat first | refine W1 ?_ | refine W3 ?_ | ((first | refine W2 hT hM [] ?_ | refine W4 ?_ | refine W5 ?_ | refine W6 ?_ | refine W7 ?_ rfl);conv=>whnf)
  ·rw [if_neg h0]
   rw [if_neg h0] at hvx hvy hnx hny
   subst hvx;subst hvy;subst hnx;subst hny
   by_cases h3:l.length=k.length
   ·rw [if_neg (by omega)]
    by_cases h4:n=m
    ·subst h4
     rw [decide_eq_true rfl,decide_eq_true rfl,decide_eq_true h3,decide_eq_true rfl,if_neg (by simp [yA])]
     conv=>whnf
     repeat first | refine W1 ?_ | refine W3 ?_ | ((first | refine W2 hT hM [] ?_ | refine W4 ?_ | refine W5 ?_ | refine W6 ?_ | refine W7 ?_ rfl);conv=>whnf)
     refine .inl ⟨_,hl,.inl rfl,?_⟩
     conv=>whnf
     repeat first | refine W1 ?_ | refine W3 ?_ | ((first | refine W2 hT hM [] ?_ | refine W4 ?_ | refine W5 ?_ | refine W6 ?_ | refine W7 ?_ rfl);conv=>whnf)
    ·rw [decide_eq_true rfl,decide_eq_true rfl,decide_eq_true h3,decide_eq_false h4,if_pos (fun h=>h4 (yA.1 h))]
     conv=>whnf
     repeat first | refine W1 ?_ | refine W3 ?_ | ((first | refine W2 hT hM [] ?_ | refine W4 ?_ | refine W5 ?_ | refine W6 ?_ | refine W7 ?_ rfl);conv=>whnf)
     rw [show (cx != cx)=false by simp]
     conv=>whnf
     repeat first | refine W1 ?_ | refine W3 ?_ | ((first | refine W2 hT hM [] ?_ | refine W4 ?_ | refine W5 ?_ | refine W6 ?_ | refine W7 ?_ rfl);conv=>whnf)
     rw [show ((l.length:Int) != (k.length:Int))=false by simp [h3]]
     conv=>whnf
     repeat first | refine W1 ?_ | refine W3 ?_ | ((first | refine W2 hT hM [] ?_ | refine W4 ?_ | refine W5 ?_ | refine W6 ?_ | refine W7 ?_ rfl);conv=>whnf)
     refine .inl ⟨_,Tryz.BH _ _,.inl rfl,?_⟩
     conv=>whnf
     repeat first | refine W1 ?_ | refine W3 ?_ | ((first | refine W2 hT hM [] ?_ | refine W4 ?_ | refine W5 ?_ | refine W6 ?_ | refine W7 ?_ rfl);conv=>whnf)
   ·rw [if_pos h3,decide_eq_true rfl,decide_eq_true rfl,decide_eq_false h3]
    conv=>whnf
    repeat first | refine W1 ?_ | refine W3 ?_ | ((first | refine W2 hT hM [] ?_ | refine W4 ?_ | refine W5 ?_ | refine W6 ?_ | refine W7 ?_ rfl);conv=>whnf)
    rw [show (cx != cx)=false by simp]
    conv=>whnf
    repeat first | refine W1 ?_ | refine W3 ?_ | ((first | refine W2 hT hM [] ?_ | refine W4 ?_ | refine W5 ?_ | refine W6 ?_ | refine W7 ?_ rfl);conv=>whnf)
    rw [show ((l.length:Int) != (k.length:Int))=true by simp;omega]
    conv=>whnf
    repeat first | refine W1 ?_ | refine W3 ?_ | ((first | refine W2 hT hM [] ?_ | refine W4 ?_ | refine W5 ?_ | refine W6 ?_ | refine W7 ?_ rfl);conv=>whnf)
    refine .inl ⟨_,Tryz.order _ _,.inl rfl,?_⟩
    conv=>whnf
    repeat first | refine W1 ?_ | refine W3 ?_ | ((first | refine W2 hT hM [] ?_ | refine W4 ?_ | refine W5 ?_ | refine W6 ?_ | refine W7 ?_ rfl);conv=>whnf)
 ·have hc:eU cx cy≠0:=fun h=>h1 (sS.1 h)
  rw [if_pos hc,decide_eq_false h1]
  conv=>whnf
  repeat first | refine W1 ?_ | refine W3 ?_ | ((first | refine W2 hT hM [] ?_ | refine W4 ?_ | refine W5 ?_ | refine W6 ?_ | refine W7 ?_ rfl);conv=>whnf)
  rw [show (cx != cy)=true by simpa using h1]
  conv=>whnf
  repeat first | refine W1 ?_ | refine W3 ?_ | ((first | refine W2 hT hM [] ?_ | refine W4 ?_ | refine W5 ?_ | refine W6 ?_ | refine W7 ?_ rfl);conv=>whnf)
  refine .inl ⟨_,Tryz.order _ _,.inl rfl,?_⟩
  conv=>whnf
  repeat first | refine W1 ?_ | refine W3 ?_ | ((first | refine W2 hT hM [] ?_ | refine W4 ?_ | refine W5 ?_ | refine W6 ?_ | refine W7 ?_ rfl);conv=>whnf)
end Go.Proofs.YtoifejgcmkencaaGreat
