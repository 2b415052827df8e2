/- Walks: is a ground description small? -/
import Derived.Test.YtoifejgcmkencaaGreatTmQAnd
import Derived.Deep.Matrix
import Derived.Deep.Strs
import Derived.Test.YtoifejgcmkencaaGreatBRunAOne
import Derived.Test.YtoifejgcmkencaaGreatSimDA0And
import Derived.Test.YtoifejgcmkencaaGreatRows
import Derived.WalkKit
import Derived.ProofKit
import Derived.OpenShut
import Derived.Deep.DeepHandedRow
import Derived.SizedLaws
set_option linter.unusedVariables false
set_option linter.unusedSimpArgs false
set_option linter.all false
namespace Go.Own
def JB (most:Int) (p:Tm→Int):Int→List Tm→Int
 | n,[]=>n
 | n,x::l=>if most<n then n else JB most p (n+p x) l
def iD (most:Int):Nat→Tm→Int
 | 0,_=>most+1
 | d+1,t=>JB most (iD most d) 1 t.args
theorem BG {most b:Int} {p:Tm→Int} (hp:∀ x,1≤p x∧p x≤b) (hm:0≤most):∀ (l:List Tm) (n:Int),1≤n→n≤most+b→0≤b→1≤JB most p n l∧JB most p n l≤most+b
 | [],n,h1,h2,_=>⟨h1,h2⟩
 | x::l,n,h1,h2,h3=>by
   unfold JB
   split
   ·exact ⟨h1,h2⟩
   ·have:=hp x
    exact BG hp hm l _ (by omega) (by omega) h3
theorem xg {most:Int} (hm:0≤most):∀ (d:Nat) (t:Tm),1≤iD most d t∧iD most d t≤(d+1)*(most+1)
 | 0,t=>by unfold iD;refine ⟨by omega,by simp⟩
 | d+1,t=>by
   have ih:=xg hm d
   have hb:((d+1:Nat)+1:Int)*(most+1)=(most+1)+(d+1)*(most+1):=by
    rw [show ((d+1:Nat)+1:Int)=(d+1)+1 by omega,Int.add_mul];omega
   have h0:(0:Int)≤(d+1)*(most+1):=Int.mul_nonneg (by omega) (by omega)
   have:=BG (p:=iD most d) (b:=(d+1)*(most+1)) ih hm t.args 1 (Int.le_refl _) (by
    have:=ih t;omega) h0
   unfold iD
   omega
def uZ (most:Int) (t:Tm):Bool:=decide (iD most most.toNat t≤most)
def lH (most:Int) (l:List Tm):Bool:=decide ((l.length:Int)≤most)&&l.all (uZ most)
def qj (atoms:List Tm) (rules:List Gr):Bool:=lH 60 atoms&&decide (rules.length≤80)&&rules.all fun r=>decide (r.2.1.length+r.2.2.length≤12)
end Go.Own
namespace Go.Proofs.YtoifejgcmkencaaGreat
open Go Go.Abs Go.Own
attribute [local irreducible] WP
theorem Ij (most:Nat) (hm:most≤1000) (d:Nat) (hd:d≤1000) (t:Tm):1≤iD most d t∧iD most d t≤1002001:=by
 obtain ⟨h1,h2⟩:=xg (most:=(most:Nat)) (by omega) d t
 have:((d:Int)+1)*((most:Int)+1)≤1001*1001:=Int.mul_le_mul (by omega) (by omega) (by omega) (by decide)
 omega
theorem Tryz.parts (most:Nat) (hm:most≤1000):∀ (d:Nat),d≤1000→∀ t:Tm,okT t→Pure Tryz.prog 47 [tD t.name t.args,.int .i64 most,.int .i64 d] [.int .i64 (iD most d t)]:=by
 intro d
 induction d with
 | zero=>
   intro _ t _
   refine Pure.of_wp hT (nt:=_) (c:=_) Tryz.func47 rfl rfl rfl rfl (by kernel_rfl) ?_
   intro w0 ok0 β0
   repeat first | refine W1 ?_ | refine W3 ?_ | ((first | refine W2 hT hM [] ?_ | refine W4 ?_ | refine W5 ?_ | refine W6 ?_ | refine W7 ?_ rfl);conv=>whnf)
   rw [show decide (((0:Nat):Int)<1)=true from rfl]
   conv=>whnf
   repeat first | refine W1 ?_ | refine W3 ?_ | ((first | refine W2 hT hM [] ?_ | refine W4 ?_ | refine W5 ?_ | refine W6 ?_ | refine W7 ?_ rfl);conv=>whnf)
   refine ⟨by omega,?_⟩
   conv=>whnf
   repeat first | refine W1 ?_ | refine W3 ?_ | ((first | refine W2 hT hM [] ?_ | refine W4 ?_ | refine W5 ?_ | refine W6 ?_ | refine W7 ?_ rfl);conv=>whnf)
   rw [iD]
 | succ d ih=>
   intro hd t ht
   have hok:=lM.1 ht
   refine Pure.of_wp hT (nt:=_) (c:=_) Tryz.func47 rfl rfl rfl rfl (by kernel_rfl) ?_
   intro w0 ok0 β0
   repeat first | refine W1 ?_ | refine W3 ?_ | ((first | refine W2 hT hM [] ?_ | refine W4 ?_ | refine W5 ?_ | refine W6 ?_ | refine W7 ?_ rfl);conv=>whnf)
   rw [show decide (((d+1:Nat):Int)<1)=false from decide_eq_false (by omega)]
   conv=>whnf
   repeat first | refine W1 ?_ | refine W3 ?_ | ((first | refine W2 hT hM [] ?_ | refine W4 ?_ | refine W5 ?_ | refine W6 ?_ | refine W7 ?_ rfl);conv=>whnf)
   refine WP.loop (α:=Nat×Int) (fun x=>⟨[(1,.d (.int .i64 most)),(2,.d (.int .i64 (d+1:Nat))),(3,.d (.ref [.str t.name,.list (t.args.map enT)] 0)),(7,.d (.int .i64 x.2)),(14,.d (.list (t.args.map enT))),(15,.d (.int .i64 t.args.length)),(16,.d (.int .i64 x.1))],[],[]⟩)
    (fun x=>x.1≤t.args.length∧1≤x.2∧x.2≤most+1002001∧iD most (d+1) t=JB most (iD most d) x.2 (t.args.drop x.1)) (fun x=>t.args.length-x.1) (0,1) [] [] ?_ ?_ ?_
   ·((conv=>whnf);repeat (first | exact True.intro | (refine And.intro (by first | rfl | exact ⟨rfl,rfl,rfl⟩ | exact ⟨rfl,rfl,by simp⟩ | exact ⟨rfl,rfl⟩ | exact ⟨rfl,by simp⟩ | (simp;done) | (simp;omega)) ?_;conv=>whnf)))
   ·exact ⟨Nat.zero_le _,Int.le_refl _,by omega,rfl⟩
   ·rintro ⟨i,n⟩ ⟨hi,h1,h2,h3⟩
    dsimp only at hi h1 h2 h3 ⊢
    repeat first | refine W1 ?_ | refine W3 ?_ | ((first | refine W2 hT hM [] ?_ | refine W4 ?_ | refine W5 ?_ | refine W6 ?_ | refine W7 ?_ rfl);conv=>whnf)
    (split<;>rename_i hb<;>(try rw [hb])<;>(conv=>whnf))
    ·have hlt:i<t.args.length:=by simpa using hb
     clear hb
     rw [List.drop_eq_getElem_cons hlt,JB] at h3
     repeat first | refine W1 ?_ | refine W3 ?_ | ((first | refine W2 hT hM [] ?_ | refine W4 ?_ | refine W5 ?_ | refine W6 ?_ | refine W7 ?_ rfl);conv=>whnf)
     (split<;>rename_i hb<;>(try rw [hb])<;>(conv=>whnf))
     ·have hn:(most:Int)<n:=by simpa using hb
      rw [if_pos hn] at h3
      repeat first | refine W1 ?_ | refine W3 ?_ | ((first | refine W2 hT hM [] ?_ | refine W4 ?_ | refine W5 ?_ | refine W6 ?_ | refine W7 ?_ rfl);conv=>whnf)
      rw [h3]
     ·have hn:¬ (most:Int)<n:=by simpa using hb
      rw [if_neg hn] at h3
      have hp:=Ij most hm d (by omega) t.args[i]
      repeat first | refine W1 ?_ | refine W3 ?_ | ((first | refine W2 hT hM [] ?_ | refine W4 ?_ | refine W5 ?_ | refine W6 ?_ | refine W7 ?_ rfl);conv=>whnf)
      refine ⟨by omega,_,vP hlt,rfl,?_⟩
      conv=>whnf
      refine ⟨by omega,?_⟩
      rw [show ((d+1:Nat):Int)-1=(d:Nat) by omega]
      conv=>whnf
      refine .inl ⟨_,ih (by omega) t.args[i] (hok.2 _ (List.getElem_mem hlt)),.inl rfl,?_⟩
      conv=>whnf
      repeat first | refine W1 ?_ | refine W3 ?_ | ((first | refine W2 hT hM [] ?_ | refine W4 ?_ | refine W5 ?_ | refine W6 ?_ | refine W7 ?_ rfl);conv=>whnf)
      refine ⟨by omega,?_⟩
      conv=>whnf
      repeat first | refine W1 ?_ | refine W3 ?_ | ((first | refine W2 hT hM [] ?_ | refine W4 ?_ | refine W5 ?_ | refine W6 ?_ | refine W7 ?_ rfl);conv=>whnf)
      refine ⟨by omega,?_⟩
      conv=>whnf
      refine ⟨(i+1,n+iD most d t.args[i]),[],[],?_,⟨by dsimp only;omega,by dsimp only;omega,by dsimp only;omega,h3⟩,by dsimp only;omega⟩
      ((conv=>whnf);repeat (first | exact True.intro | (refine And.intro (by first | rfl | exact ⟨rfl,rfl,rfl⟩ | exact ⟨rfl,rfl,by simp⟩ | exact ⟨rfl,rfl⟩ | exact ⟨rfl,by simp⟩ | (simp;done) | (simp;omega)) ?_;conv=>whnf)))
    ·have:i=t.args.length:=by simp at hb;omega
     subst this
     rw [List.drop_length,JB] at h3
     repeat first | refine W1 ?_ | refine W3 ?_ | ((first | refine W2 hT hM [] ?_ | refine W4 ?_ | refine W5 ?_ | refine W6 ?_ | refine W7 ?_ rfl);conv=>whnf)
     rw [h3]
theorem Tryz.VP (most:Nat) (hm:most≤1000) (t:Tm) (ht:okT t):Pure Tryz.prog 21 [tD t.name t.args,.int .i64 most] [.bool (uZ most t)]:=by
 refine Pure.of_wp hT (nt:=_) (c:=_) Tryz.func21 rfl rfl rfl rfl (by kernel_rfl) ?_
 intro w0 ok0 β0
 repeat first | refine W1 ?_ | refine W3 ?_ | ((first | refine W2 hT hM [] ?_ | refine W4 ?_ | refine W5 ?_ | refine W6 ?_ | refine W7 ?_ rfl);conv=>whnf)
 refine .inl ⟨_,Tryz.parts most hm most (by omega) t ht,.inl rfl,?_⟩
 conv=>whnf
 repeat first | refine W1 ?_ | refine W3 ?_ | ((first | refine W2 hT hM [] ?_ | refine W4 ?_ | refine W5 ?_ | refine W6 ?_ | refine W7 ?_ rfl);conv=>whnf)
 rfl
theorem Tryz.Sz (most:Nat) (hm:most≤1000) (l:List Tm) (hl:∀ x∈l,okT x) (hlen:l.length≤9223372036854775807):Pure Tryz.prog 8 [.list (l.map enT),.int .i64 most] [.bool (lH most l)]:=by
 refine Pure.of_wp hT (nt:=_) (c:=_) Tryz.func8 rfl rfl rfl rfl (by kernel_rfl) ?_
 intro w0 ok0 β0
 repeat first | refine W1 ?_ | refine W3 ?_ | ((first | refine W2 hT hM [] ?_ | refine W4 ?_ | refine W5 ?_ | refine W6 ?_ | refine W7 ?_ rfl);conv=>whnf)
 (split<;>rename_i hb<;>(try rw [hb])<;>(conv=>whnf))
 ·have h:((most:Nat):Int)<l.length:=by simpa using hb
  rw [show lH most l=false by unfold lH;rw [decide_eq_false (by omega)];rfl]
  repeat first | refine W1 ?_ | refine W3 ?_ | ((first | refine W2 hT hM [] ?_ | refine W4 ?_ | refine W5 ?_ | refine W6 ?_ | refine W7 ?_ rfl);conv=>whnf)
 ·have h:¬ ((most:Nat):Int)<l.length:=by simpa using hb
  have hs:lH most l=l.all (uZ most):=by unfold lH;rw [decide_eq_true (by omega)];rfl
  rw [hs]
  clear hb
  repeat first | refine W1 ?_ | refine W3 ?_ | ((first | refine W2 hT hM [] ?_ | refine W4 ?_ | refine W5 ?_ | refine W6 ?_ | refine W7 ?_ rfl);conv=>whnf)
  refine WP.loop (α:=Nat) (fun i=>⟨[(0,.d (.list (l.map enT))),(1,.d (.int .i64 most)),(11,.d (.int .i64 l.length)),(12,.d (.int .i64 i))],[],[]⟩)
   (fun i=>i≤l.length∧∀ j (h:j<l.length),j<i→uZ most l[j]=true) (fun i=>l.length-i) 0 [] [] ?_ ?_ ?_
  ·((conv=>whnf);repeat (first | exact True.intro | (refine And.intro (by first | rfl | exact ⟨rfl,rfl,rfl⟩ | exact ⟨rfl,rfl,by simp⟩ | exact ⟨rfl,rfl⟩ | exact ⟨rfl,by simp⟩ | (simp;done) | (simp;omega)) ?_;conv=>whnf)))
  ·exact ⟨Nat.zero_le _,fun j _ hj=>by omega⟩
  ·rintro i ⟨hi,hx⟩
   repeat first | refine W1 ?_ | refine W3 ?_ | ((first | refine W2 hT hM [] ?_ | refine W4 ?_ | refine W5 ?_ | refine W6 ?_ | refine W7 ?_ rfl);conv=>whnf)
   (split<;>rename_i hb<;>(try rw [hb])<;>(conv=>whnf))
   ·have hlt:i<l.length:=by simpa using hb
    clear hb
    repeat first | refine W1 ?_ | refine W3 ?_ | ((first | refine W2 hT hM [] ?_ | refine W4 ?_ | refine W5 ?_ | refine W6 ?_ | refine W7 ?_ rfl);conv=>whnf)
    refine ⟨by omega,_,vP hlt,rfl,?_⟩
    conv=>whnf
    refine .inl ⟨_,Tryz.VP most hm l[i] (hl _ (List.getElem_mem hlt)),.inl rfl,?_⟩
    conv=>whnf
    cases hc:uZ most l[i] with
    | true=>
      conv=>whnf
      repeat first | refine W1 ?_ | refine W3 ?_ | ((first | refine W2 hT hM [] ?_ | refine W4 ?_ | refine W5 ?_ | refine W6 ?_ | refine W7 ?_ rfl);conv=>whnf)
      refine ⟨by omega,?_⟩
      conv=>whnf
      refine ⟨i+1,[],[],?_,⟨by omega,fun j h hj=>?_⟩,by omega⟩
      ·((conv=>whnf);repeat (first | exact True.intro | (refine And.intro (by first | rfl | exact ⟨rfl,rfl,rfl⟩ | exact ⟨rfl,rfl,by simp⟩ | exact ⟨rfl,rfl⟩ | exact ⟨rfl,by simp⟩ | (simp;done) | (simp;omega)) ?_;conv=>whnf)))
      ·rcases Nat.lt_or_ge j i with h1 | h1
       ·exact hx j h h1
       ·obtain rfl:j=i:=by omega
        exact hc
    | false=>
      rw [show l.all (uZ most)=false from List.all_eq_false.2 ⟨l[i],List.getElem_mem hlt,by rw [hc];simp⟩]
      conv=>whnf
      repeat first | refine W1 ?_ | refine W3 ?_ | ((first | refine W2 hT hM [] ?_ | refine W4 ?_ | refine W5 ?_ | refine W6 ?_ | refine W7 ?_ rfl);conv=>whnf)
   ·have:i=l.length:=by simp at hb;omega
    subst this
    rw [show l.all (uZ most)=true from List.all_eq_true.2 fun x hxm=>by
     obtain ⟨j,hj,rfl⟩:=List.mem_iff_getElem.1 hxm
     exact hx j hj hj]
    repeat first | refine W1 ?_ | refine W3 ?_ | ((first | refine W2 hT hM [] ?_ | refine W4 ?_ | refine W5 ?_ | refine W6 ?_ | refine W7 ?_ rfl);conv=>whnf)
theorem Zo {l:List Gr} {i:Nat} (h:i<l.length):(l.map enG)[((i:Int)).toNat]?=some (.agg [.int .i64 l[i].1,.list (l[i].2.1.map enI),.list (l[i].2.2.map enI)]):=bC h
set_option maxRecDepth 10000 in
theorem Tryz.VQ (atoms:List Tm) (rules:List Gr) (hok:∀ x∈atoms,okT x) (hlen:atoms.length≤4000000000000000000) (hlr:rules.length≤4000000000000000000) (hw:∀ r∈rules,r.2.1.length≤4000000000000000000∧r.2.2.length≤4000000000000000000) :
  Pure Tryz.prog 4 [gD atoms rules] [.bool (qj atoms rules)]:=by
 refine Pure.of_wp hT (nt:=_) (c:=_) Tryz.func4 rfl rfl rfl rfl (by kernel_rfl) ?_
 intro w0 ok0 β0
 repeat first | refine W1 ?_ | refine W3 ?_ | ((first | refine W2 hT hM [] ?_ | refine W4 ?_ | refine W5 ?_ | refine W6 ?_ | refine W7 ?_ rfl);conv=>whnf)
 refine .inl ⟨_,Tryz.Sz 60 (by decide) atoms hok (by omega),.inl rfl,?_⟩
 conv=>whnf
 cases h1:lH (60:Nat) atoms with
 | false=>
   rw [show qj atoms rules=false by unfold qj;rw [show ((60:Nat):Int)=60 from rfl] at h1;rw [h1];rfl]
   conv=>whnf
   repeat first | refine W1 ?_ | refine W3 ?_ | ((first | refine W2 hT hM [] ?_ | refine W4 ?_ | refine W5 ?_ | refine W6 ?_ | refine W7 ?_ rfl);conv=>whnf)
 | true=>
   have hs:qj atoms rules=(decide (rules.length≤80)&&rules.all fun r=>decide (r.2.1.length+r.2.2.length≤12)):=by unfold qj;rw [show ((60:Nat):Int)=60 from rfl] at h1;rw [h1];rfl
   rw [hs]
   conv=>whnf
   rw [List.length_map]
   cases h2:decide (((80:Int))<rules.length) with
   | true=>
     have h2':(80:Int)<rules.length:=by simpa using h2
     rw [show decide (rules.length≤80)=false from decide_eq_false (by omega),Bool.false_and]
     repeat first | refine W1 ?_ | refine W3 ?_ | ((first | refine W2 hT hM [] ?_ | refine W4 ?_ | refine W5 ?_ | refine W6 ?_ | refine W7 ?_ rfl);conv=>whnf)
   | false=>
     have h2':¬ (80:Int)<rules.length:=by simpa using h2
     rw [show decide (rules.length≤80)=true from decide_eq_true (by omega),Bool.true_and]
     repeat first | refine W1 ?_ | refine W3 ?_ | ((first | refine W2 hT hM [] ?_ | refine W4 ?_ | refine W5 ?_ | refine W6 ?_ | refine W7 ?_ rfl);conv=>whnf)
     refine WP.loop (α:=Nat) (fun i=>⟨[(1,.d (.ref [.list (atoms.map enT),.list (rules.map enG)] 0)),(3,.d (.int .i64 i))],[],[]⟩)
      (fun i=>i≤rules.length∧∀ j (h:j<rules.length),j<i→rules[j].2.1.length+rules[j].2.2.length≤12) (fun i=>rules.length-i) 0 [] [] ?_ ?_ ?_
     ·((conv=>whnf);repeat (first | exact True.intro | (refine And.intro (by first | rfl | exact ⟨rfl,rfl,rfl⟩ | exact ⟨rfl,rfl,by simp⟩ | exact ⟨rfl,rfl⟩ | exact ⟨rfl,by simp⟩ | (simp;done) | (simp;omega)) ?_;conv=>whnf)))
     ·exact ⟨Nat.zero_le _,fun j _ hj=>by omega⟩
     ·rintro i ⟨hi,hx⟩
      repeat first | refine W1 ?_ | refine W3 ?_ | ((first | refine W2 hT hM [] ?_ | refine W4 ?_ | refine W5 ?_ | refine W6 ?_ | refine W7 ?_ rfl);conv=>whnf)
      rw [List.length_map]
      (split<;>rename_i hb<;>(try rw [hb])<;>(conv=>whnf))
      ·have hlt:i<rules.length:=by simpa using hb
       clear hb
       have hwi:=hw rules[i] (List.getElem_mem hlt)
       repeat first | refine W1 ?_ | refine W3 ?_ | ((first | refine W2 hT hM [] ?_ | refine W4 ?_ | refine W5 ?_ | refine W6 ?_ | refine W7 ?_ rfl);conv=>whnf)
       refine ⟨by omega,_,Zo hlt,rfl,?_⟩
       conv=>whnf
       refine ⟨by omega,_,Zo hlt,rfl,?_⟩
       conv=>whnf
       rw [List.length_map,List.length_map]
       refine ⟨by omega,?_⟩
       conv=>whnf
       repeat first | refine W1 ?_ | refine W3 ?_ | ((first | refine W2 hT hM [] ?_ | refine W4 ?_ | refine W5 ?_ | refine W6 ?_ | refine W7 ?_ rfl);conv=>whnf)
       (split<;>rename_i hb<;>(try rw [hb])<;>(conv=>whnf))
       ·have h:(12:Int)<(rules[i].2.1.length:Int)+rules[i].2.2.length:=by simpa using hb
        rw [show (rules.all fun r=>decide (r.2.1.length+r.2.2.length≤12))=false from List.all_eq_false.2 ⟨rules[i],List.getElem_mem hlt,by simp;omega⟩]
        repeat first | refine W1 ?_ | refine W3 ?_ | ((first | refine W2 hT hM [] ?_ | refine W4 ?_ | refine W5 ?_ | refine W6 ?_ | refine W7 ?_ rfl);conv=>whnf)
       ·have h:¬ (12:Int)<(rules[i].2.1.length:Int)+rules[i].2.2.length:=by simpa using hb
        repeat first | refine W1 ?_ | refine W3 ?_ | ((first | refine W2 hT hM [] ?_ | refine W4 ?_ | refine W5 ?_ | refine W6 ?_ | refine W7 ?_ rfl);conv=>whnf)
        refine ⟨by omega,?_⟩
        conv=>whnf
        refine ⟨i+1,[],[],?_,⟨by omega,fun j h0 hj=>?_⟩,by omega⟩
        ·((conv=>whnf);repeat (first | exact True.intro | (refine And.intro (by first | rfl | exact ⟨rfl,rfl,rfl⟩ | exact ⟨rfl,rfl,by simp⟩ | exact ⟨rfl,rfl⟩ | exact ⟨rfl,by simp⟩ | (simp;done) | (simp;omega)) ?_;conv=>whnf)))
        ·rcases Nat.lt_or_ge j i with h1 | h1
         ·exact hx j h0 h1
         ·obtain rfl:j=i:=by omega
          omega
      ·have:i=rules.length:=by simp at hb;omega
       subst this
       rw [show (rules.all fun r=>decide (r.2.1.length+r.2.2.length≤12))=true from List.all_eq_true.2 fun x hxm=>by
        obtain ⟨j,hj,rfl⟩:=List.mem_iff_getElem.1 hxm
        exact decide_eq_true (hx j hj hj)]
       repeat first | refine W1 ?_ | refine W3 ?_ | ((first | refine W2 hT hM [] ?_ | refine W4 ?_ | refine W5 ?_ | refine W6 ?_ | refine W7 ?_ rfl);conv=>whnf)
end Go.Proofs.YtoifejgcmkencaaGreat
namespace Go.Own
def nzB (v:Int):Bool:=decide (v≠0)
structure o8 (G:List (List Nat)) (n:Nat) (at':List Int) (i k cnt:Nat):Prop where
 len:at'.length=n
 old:∀ (j:Nat) (g:List Nat) (x:Nat),G[j]?=some g→j<i→x∈g→at'[x]?=some ((j:Int)+1)
 cur:∀ (g:List Nat) (x:Nat),G[i]?=some g→x∈g.take k→at'[x]?=some ((i:Int)+1)
 new:∀ x,x<n→(∀ (j:Nat) (g:List Nat),G[j]?=some g→j<i→x∉g)→(∀ g,G[i]?=some g→x∉g.take k)→at'[x]?=some 0
 cnt:cnt+cZ (at'.map nzB)=n
theorem o8.start (G:List (List Nat)) (n:Nat):o8 G n (List.replicate n 0) 0 0 0 where
 len:=by simp
 old j g x _ h:=by omega
 cur g x _ h:=by simp at h
 new x hx _ _:=by rw [List.getElem?_replicate,if_pos hx]
 cnt:=by
  rw [List.map_replicate,show nzB 0=false from rfl,dV];omega
theorem o8.next {G:List (List Nat)} {n i k cnt:Nat} {a:List Int} {g:List Nat} (h:o8 G n a i k cnt) (hg:G[i]?=some g) (hk:g.length≤k):o8 G n a (i+1) 0 cnt where
 len:=h.len
 old j g' x hj hlt hx:=by
  rcases Nat.lt_or_ge j i with h1 | h1
  ·exact h.old j g' x hj h1 hx
  ·obtain rfl:j=i:=by omega
   refine h.cur g' x hj ?_
   rw [hg] at hj;cases hj
   rw [List.take_of_length_le hk];exact hx
 cur g' x _ hx:=by simp at hx
 new x hx h1 _:=h.new x hx (fun j g' hj hlt=>h1 j g' hj (by omega)) (fun g' hj hx'=>h1 i g' hj (by omega) (List.mem_of_mem_take hx'))
 cnt:=h.cnt
theorem CO {g:List Nat} (h:g.Pairwise (·<·)) {k:Nat} (hk:k<g.length):g[k]∉g.take k:=fun hm=>by
 obtain ⟨j,hj,he⟩:=List.mem_iff_getElem.1 hm
 rw [List.length_take] at hj
 rw [List.getElem_take] at he
 have:=List.pairwise_iff_getElem.1 h j k (by omega) hk (by omega)
 omega
theorem o8.zero {m:Rows} {l:List Bool} {G:List (List Nat)} {n i k cnt:Nat} {a:List Int} {g:List Nat} (h:o8 G n a i k cnt) (hG:GInv m n l G) (hg:G[i]?=some g) (hk:k<g.length):a[g[k]]?=some 0:=by
 have hx:=hG.lt i g hg g[k] (List.getElem_mem hk)
 refine h.new _ hx (fun j g' hj hlt hm=>?_) (fun g' hj hm=>?_)
 ·have:=hG.dis i j g g' g[k] hg hj (List.getElem_mem hk) hm
  omega
 ·rw [hg] at hj;cases hj
  exact CO (hG.asc i g hg) hk hm
theorem o8.step {m:Rows} {l:List Bool} {G:List (List Nat)} {n i k cnt:Nat} {a:List Int} {g:List Nat} (h:o8 G n a i k cnt) (hG:GInv m n l G) (hg:G[i]?=some g) (hk:k<g.length) :
  o8 G n (a.set g[k] ((i:Int)+1)) i (k+1) (cnt+1):=by
 have hx:=hG.lt i g hg g[k] (List.getElem_mem hk)
 have hz:=h.zero hG hg hk
 refine ⟨by rw [List.length_set];exact h.len,fun j g' x hj hlt hm=>?_,fun g' x hj hm=>?_,fun x hxn h1 h2=>?_,?_⟩
 ·have hne:g[k]≠x:=fun e=>by
   subst e
   have:=hG.dis i j g g' g[k] hg hj (List.getElem_mem hk) hm
   omega
  rw [List.getElem?_set_ne hne]
  exact h.old j g' x hj hlt hm
 ·rw [hg] at hj;cases hj
  rw [List.take_succ_eq_append_getElem hk,List.mem_append,List.mem_singleton] at hm
  by_cases e:g[k]=x
  ·rw [← e,List.getElem?_set_self (by rw [h.len];exact hx)]
  ·rw [List.getElem?_set_ne e]
   exact h.cur g x hg (hm.resolve_right fun e'=>e e'.symm)
 ·have hne:g[k]≠x:=fun e=>h2 g hg (by rw [List.take_succ_eq_append_getElem hk];simp [e])
  rw [List.getElem?_set_ne hne]
  exact h.new x hxn h1 (fun g' hj hm=>h2 g' hj (by
   rw [hg] at hj;cases hj
   rw [List.take_succ_eq_append_getElem hk];exact List.mem_append_left _ hm))
 ·have hf:(a.map nzB)[g[k]]?=some false:=by rw [List.getElem?_map,hz];rfl
  have:=vV hf
  have hc:=h.cnt
  rw [List.map_set,show nzB ((i:Int)+1)=true from decide_eq_true (by omega)]
  omega
theorem o8.at {m:Rows} {l:List Bool} {G:List (List Nat)} {n cnt:Nat} {a:List Int} (h:o8 G n a G.length 0 cnt) (hG:GInv m n l G) (hall:∀ x,x<n→iW l x=true) {x:Nat} (hx:x<n) :
  ∃ (j:Nat) (g:List Nat),G[j]?=some g∧x∈g∧a[x]?=some ((j:Int)+1):=by
 obtain ⟨j,g,h1,h2⟩:=(hG.mem x hx).1 (hall x hx)
 exact ⟨j,g,h1,h2,h.old j g x h1 (List.getElem?_eq_some_iff.1 h1).1 h2⟩
theorem o8.count {m:Rows} {l:List Bool} {G:List (List Nat)} {n cnt:Nat} {a:List Int} (h:o8 G n a G.length 0 cnt) (hG:GInv m n l G) (hall:∀ x,x<n→iW l x=true):cnt=n:=by
 have hc:=h.cnt
 have:cZ (a.map nzB)=0:=by
  unfold cZ
  rw [List.count_eq_zero]
  intro hm
  obtain ⟨x,hx,he⟩:=List.mem_iff_getElem.1 hm
  rw [List.length_map,h.len] at hx
  obtain ⟨j,g,_,_,h3⟩:=h.at hG hall hx
  rw [List.getElem_map] at he
  rw [List.getElem?_eq_getElem (by rw [h.len];exact hx)] at h3
  have h3:=Option.some.inj h3
  rw [h3] at he
  exact absurd he (by unfold nzB;simp;omega)
 omega
theorem o8.order {m:Rows} {l:List Bool} {G:List (List Nat)} {n cnt:Nat} {a:List Int} (h:o8 G n a G.length 0 cnt) (hG:GInv m n l G) (hall:∀ x,x<n→iW l x=true) {x y:Nat} (hx:x<n) (hy:y<n) (hr:Rch m x y) :
  ∃ u v:Int,a[x]?=some u∧a[y]?=some v∧v≤u:=by
 obtain ⟨j,g,h1,h2,h3⟩:=h.at hG hall hx
 obtain ⟨i,g',hij,h4,h5⟩:=hG.ord j g x y h1 h2 hy hr
 exact ⟨_,_,h3,h.old i g' y h4 (List.getElem?_eq_some_iff.1 h4).1 h5,by omega⟩
end Go.Own
namespace Go.Proofs.YtoifejgcmkencaaGreat
open Go Go.Abs Go.Own
attribute [local irreducible] WP
theorem small_facts {atoms:List Tm} {rules:List Gr} (h:Own.qj atoms rules=true):atoms.length≤60∧rules.length≤80∧∀ r∈rules,r.2.1.length+r.2.2.length≤12:=by
 unfold Own.qj Own.lH at h
 simp only [Bool.and_eq_true,decide_eq_true_eq,List.all_eq_true] at h
 exact ⟨by omega,h.1.2,fun r hr=>h.2 r hr⟩
theorem zS (d:List (List Bool)) (n:Nat):∀ (k:Nat) (l:List Bool) (out:List (List Nat)),(Own.yP d n k l out).length≤out.length+k
 | 0,l,out=>by unfold Own.yP;omega
 | k+1,l,out=>by
   unfold Own.yP
   split
   ·omega
   ·have:=zS d n k (cO l (grp d n ‹Nat›)) (out++[grp d n ‹Nat›])
    rw [List.length_append,List.length_singleton] at this
    omega
theorem Vt {g:List Nat} (h:g.Pairwise (·<·)):∀ (k:Nat) (hk:k<g.length),k≤g[k]
 | 0,_=>Nat.zero_le _
 | k+1,hk=>by
   have h1:=Vt h k (by omega)
   have h2:=List.pairwise_iff_getElem.1 h k (k+1) (by omega) hk (by omega)
   omega
theorem Ws {α:Type} {f:α→D} {a:List α} {i:Nat} {x:α} (h:a[i]?=some x):(a.map f)[((i:Int)).toNat]?=some (f x):=by simp [h]
theorem Il {G:List (List Nat)} {g:List Nat} {i:Nat} (h:G[i]?=some g):(oG G)[((i:Int)).toNat]?=some (.list (g.map enN)):=Ws (f:=fun (g:List Nat)=>D.list (g.map enN)) h
theorem U4 {g:List Nat} {i:Nat} (h:i<g.length):(g.map enN)[((i:Int)).toNat]?=some (.int .i64 (g[i]:Nat)):=bC h
theorem wo {a:List Int} {x:Nat} {v:Int} (h:a[x]?=some v):(a.map enI)[0+x]?=some (.int .i64 v):=by rw [Nat.zero_add,List.getElem?_map,h];rfl
set_option maxRecDepth 10000 in
theorem Tryz.compileOrder (halive:Pure Tryz.prog 6 [] [.bool true]) (atoms:List Tm) (rules:List Gr) (hok:∀ x∈atoms,okT x) (hlen:atoms.length≤4000000000000000000) (hlr:rules.length≤4000000000000000000)
  (hw:∀ r∈rules,r.2.1.length≤4000000000000000000∧r.2.2.length≤4000000000000000000) :
  Pure Tryz.prog 3 [gD atoms rules] [.bool true]:=by
 refine Pure.of_wp hT (nt:=_) (c:=_) Tryz.func3 rfl rfl rfl rfl (by kernel_rfl) ?_
 intro w0 ok0 β0
 repeat first | refine W1 ?_ | refine W3 ?_ | ((first | refine W2 hT hM [] ?_ | refine W4 ?_ | refine W5 ?_ | refine W6 ?_ | refine W7 ?_ rfl);conv=>whnf)
 refine .inl ⟨_,Tryz.VQ atoms rules hok hlen hlr hw,.inl rfl,?_⟩
 conv=>whnf
 cases hs:Own.qj atoms rules with
 | false=>
   conv=>whnf
   repeat first | refine W1 ?_ | refine W3 ?_ | ((first | refine W2 hT hM [] ?_ | refine W4 ?_ | refine W5 ?_ | refine W6 ?_ | refine W7 ?_ rfl);conv=>whnf)
   refine .inl ⟨_,halive,.inl rfl,?_⟩
   conv=>whnf
   repeat first | refine W1 ?_ | refine W3 ?_ | ((first | refine W2 hT hM [] ?_ | refine W4 ?_ | refine W5 ?_ | refine W6 ?_ | refine W7 ?_ rfl);conv=>whnf)
 | true=>
   obtain ⟨hn,hr,hf⟩:=small_facts hs
   have hfit:WS rules:=fun r h=>by have:=hf r h;omega
   conv=>whnf
   refine .inl ⟨_,Tryz.VK atoms rules hok hfit,.inl rfl,?_⟩
   conv=>whnf
   cases hv:iC atoms rules with
   | false=>
     conv=>whnf
     repeat first | refine W1 ?_ | refine W3 ?_ | ((first | refine W2 hT hM [] ?_ | refine W4 ?_ | refine W5 ?_ | refine W6 ?_ | refine W7 ?_ rfl);conv=>whnf)
     refine .inl ⟨_,halive,.inl rfl,?_⟩
     conv=>whnf
     repeat first | refine W1 ?_ | refine W3 ?_ | ((first | refine W2 hT hM [] ?_ | refine W4 ?_ | refine W5 ?_ | refine W6 ?_ | refine W7 ?_ rfl);conv=>whnf)
   | true=>
     conv=>whnf
     have hgrp:=Tryz.groups atoms rules hok hv (by omega) (by omega) (fun r h=>by have:=hf r h;omega)
     have hin:=FM hv
     obtain ⟨n,hnn⟩:∃ n,atoms.length=n:=⟨_,rfl⟩
     rw [hnn] at hgrp hin hn
     obtain ⟨l,hG,hall⟩:=NK (bg n rules) n
     have hGl:(nV (jU n (bg n rules)) n).length≤n+1:=by
      have:=zS (jU n (bg n rules)) n (n+1) (List.replicate n false) []
      unfold nV;simpa using this
     generalize hGG:nV (jU n (bg n rules)) n=G at hgrp hG hGl
     repeat first | refine W1 ?_ | refine W3 ?_ | ((first | refine W2 hT hM [] ?_ | refine W4 ?_ | refine W5 ?_ | refine W6 ?_ | refine W7 ?_ rfl);conv=>whnf)
     refine .inl ⟨_,hgrp,.inl rfl,?_⟩
     conv=>whnf
     repeat first | refine W1 ?_ | refine W3 ?_ | ((first | refine W2 hT hM [] ?_ | refine W4 ?_ | refine W5 ?_ | refine W6 ?_ | refine W7 ?_ rfl);conv=>whnf)
     rw [List.length_map,hnn]
     refine ⟨⟨by omega,by omega,by omega,by show ((8:Nat):Int)*(n:Int)≤281474976710656;omega⟩,?_⟩
     rw [Int.toNat_natCast]
     conv=>whnf
     refine ⟨rfl,?_⟩
     conv=>whnf
     rw [show List.replicate n (D.int .i64 0)=(List.replicate n (0:Int)).map enI by simp [enI]]
     repeat first | refine W1 ?_ | refine W3 ?_ | ((first | refine W2 hT hM [] ?_ | refine W4 ?_ | refine W5 ?_ | refine W6 ?_ | refine W7 ?_ rfl);conv=>whnf)
     refine WP.loop (α:=List Int×Nat×Nat) (fun y=>⟨[(1,.d (.ref [.list (atoms.map enT),.list (rules.map enG)] 0)),(3,.d (.list (oG G))),(4,.sl 27 1 0 n),(5,.d (.int .i64 y.2.2)),(6,.d (.int .i64 y.2.1))],[((27,0),some (.arr 1 (y.1.map enI)))],[27]⟩)
      (fun y=>o8 G n y.1 y.2.1 0 y.2.2∧y.2.1≤G.length) (fun y=>G.length-y.2.1) (List.replicate n 0,0,0) [(27,some 27)] [] ?_ ?_ ?_
     ·((conv=>whnf);repeat (first | exact True.intro | (refine And.intro (by first | rfl | exact ⟨rfl,rfl,rfl⟩ | exact ⟨rfl,rfl,by simp⟩ | exact ⟨rfl,rfl⟩ | exact ⟨rfl,by simp⟩ | (simp;done) | (simp;omega)) ?_;conv=>whnf)))
     ·exact ⟨o8.start G n,Nat.zero_le _⟩
     ·rintro ⟨at',i,cnt⟩ ⟨ha,hi⟩
      dsimp only at ha hi ⊢
      repeat first | refine W1 ?_ | refine W3 ?_ | ((first | refine W2 hT hM [] ?_ | refine W4 ?_ | refine W5 ?_ | refine W6 ?_ | refine W7 ?_ rfl);conv=>whnf)
      rw [show ((oG G).length:Int)=(G.length:Nat) by simp [oG]]
      (split<;>rename_i hb<;>(try rw [hb])<;>(conv=>whnf))
      ·have hlt:i<G.length:=by simpa using hb
       clear hb
       obtain ⟨g,hg⟩:∃ g,G[i]?=some g:=⟨_,List.getElem?_eq_getElem hlt⟩
       have hgl:=hG.asc i g hg
       repeat first | refine W1 ?_ | refine W3 ?_ | ((first | refine W2 hT hM [] ?_ | refine W4 ?_ | refine W5 ?_ | refine W6 ?_ | refine W7 ?_ rfl);conv=>whnf)
       refine WP.loop (α:=List Int×Nat×Nat) (fun y=>⟨[(1,.d (.ref [.list (atoms.map enT),.list (rules.map enG)] 0)),(3,.d (.list (oG G))),(4,.sl 27 1 0 n),(5,.d (.int .i64 y.2.2)),(6,.d (.int .i64 i)),(7,.d (.int .i64 y.2.1))],[((27,0),some (.arr 1 (y.1.map enI)))],[27]⟩)
        (fun y=>o8 G n y.1 i y.2.1 y.2.2∧y.2.1≤g.length) (fun y=>g.length-y.2.1) (at',0,cnt) [(27,some 27)] [] ?_ ?_ ?_
       ·((conv=>whnf);repeat (first | exact True.intro | (refine And.intro (by first | rfl | exact ⟨rfl,rfl,rfl⟩ | exact ⟨rfl,rfl,by simp⟩ | exact ⟨rfl,rfl⟩ | exact ⟨rfl,by simp⟩ | (simp;done) | (simp;omega)) ?_;conv=>whnf)))
       ·exact ⟨ha,Nat.zero_le _⟩
       ·clear ha
        rintro ⟨at',k,cnt⟩ ⟨ha,hk⟩
        dsimp only at ha hk ⊢
        repeat first | refine W1 ?_ | refine W3 ?_ | ((first | refine W2 hT hM [] ?_ | refine W4 ?_ | refine W5 ?_ | refine W6 ?_ | refine W7 ?_ rfl);conv=>whnf)
        refine ⟨by omega,_,Il hg,rfl,?_⟩
        conv=>whnf
        rw [List.length_map]
        repeat first | refine W1 ?_ | refine W3 ?_ | ((first | refine W2 hT hM [] ?_ | refine W4 ?_ | refine W5 ?_ | refine W6 ?_ | refine W7 ?_ rfl);conv=>whnf)
        (split<;>rename_i hb<;>(try rw [hb])<;>(conv=>whnf))
        ·have hkl:k<g.length:=by simpa using hb
         clear hb
         have hxn:=hG.lt i g hg g[k] (List.getElem_mem hkl)
         have hkg:=Vt hgl k hkl
         have hz:=ha.zero hG hg hkl
         have hcl:=ha.len
         repeat first | refine W1 ?_ | refine W3 ?_ | ((first | refine W2 hT hM [] ?_ | refine W4 ?_ | refine W5 ?_ | refine W6 ?_ | refine W7 ?_ rfl);conv=>whnf)
         refine ⟨by omega,_,Il hg,rfl,?_⟩
         conv=>whnf
         refine ⟨by omega,_,U4 hkl,rfl,?_⟩
         conv=>whnf
         repeat first | refine W1 ?_ | refine W3 ?_ | ((first | refine W2 hT hM [] ?_ | refine W4 ?_ | refine W5 ?_ | refine W6 ?_ | refine W7 ?_ rfl);conv=>whnf)
         rw [show decide ((((g[k]:Nat)):Int)<0)=false from decide_eq_false (by omega)]
         conv=>whnf
         rw [show decide ((((g[k]:Nat)):Int)≥(n:Nat))=false from decide_eq_false (by omega)]
         conv=>whnf
         refine ⟨by omega,?_⟩
         rw [Int.toNat_natCast]
         conv=>whnf
         refine ⟨_,wo hz,?_⟩
         conv=>whnf
         have hcb:cnt≤n:=by have:=ha.cnt;omega
         cases k with
         | zero=>
           rw [show decide (((0:Nat):Int)>0)=false from rfl]
           conv=>whnf
           repeat first | refine W1 ?_ | refine W3 ?_ | ((first | refine W2 hT hM [] ?_ | refine W4 ?_ | refine W5 ?_ | refine W6 ?_ | refine W7 ?_ rfl);conv=>whnf)
           refine ⟨by omega,?_⟩
           conv=>whnf
           refine ⟨by omega,?_⟩
           rw [Int.toNat_natCast]
           conv=>whnf
           refine ⟨rfl,_,wo hz,?_⟩
           conv=>whnf
           refine .inl ⟨rfl,rfl,?_⟩
           rw [Nat.zero_add,show (at'.map enI).set g[0] (D.int .i64 ((i:Int)+1))=(at'.set g[0] ((i:Int)+1)).map enI by rw [List.map_set];rfl]
           conv=>whnf
           repeat first | refine W1 ?_ | refine W3 ?_ | ((first | refine W2 hT hM [] ?_ | refine W4 ?_ | refine W5 ?_ | refine W6 ?_ | refine W7 ?_ rfl);conv=>whnf)
           refine ⟨by omega,?_⟩
           conv=>whnf
           repeat first | refine W1 ?_ | refine W3 ?_ | ((first | refine W2 hT hM [] ?_ | refine W4 ?_ | refine W5 ?_ | refine W6 ?_ | refine W7 ?_ rfl);conv=>whnf)
           refine ⟨by omega,?_⟩
           conv=>whnf
           refine ⟨(at'.set g[0] ((i:Int)+1),0+1,cnt+1),[(27,some 27)],[],?_,⟨ha.step hG hg hkl,by dsimp only;omega⟩,by dsimp only;omega⟩
           ((conv=>whnf);repeat (first | exact True.intro | (refine And.intro (by first | rfl | exact ⟨rfl,rfl,rfl⟩ | exact ⟨rfl,rfl,by simp⟩ | exact ⟨rfl,rfl⟩ | exact ⟨rfl,by simp⟩ | (simp;done) | (simp;omega)) ?_;conv=>whnf)))
         | succ k=>
           rw [show decide (((k+1:Nat):Int)>0)=true from decide_eq_true (by omega)]
           have hup:=List.pairwise_iff_getElem.1 hgl k (k+1) (by omega) hkl (by omega)
           conv=>whnf
           refine ⟨by omega,_,Il hg,rfl,?_⟩
           conv=>whnf
           refine ⟨by omega,?_⟩
           rw [show ((k+1:Nat):Int)-1=(k:Nat) by omega]
           conv=>whnf
           refine ⟨by omega,_,U4 (by omega),rfl,?_⟩
           conv=>whnf
           rw [show decide ((((g[k+1]:Nat)):Int)≤(g[k]:Nat))=false from decide_eq_false (by omega)]
           conv=>whnf
           repeat first | refine W1 ?_ | refine W3 ?_ | ((first | refine W2 hT hM [] ?_ | refine W4 ?_ | refine W5 ?_ | refine W6 ?_ | refine W7 ?_ rfl);conv=>whnf)
           refine ⟨by omega,?_⟩
           conv=>whnf
           refine ⟨by omega,?_⟩
           rw [Int.toNat_natCast]
           conv=>whnf
           refine ⟨rfl,_,wo hz,?_⟩
           conv=>whnf
           refine .inl ⟨rfl,rfl,?_⟩
           rw [Nat.zero_add,show (at'.map enI).set g[k+1] (D.int .i64 ((i:Int)+1))=(at'.set g[k+1] ((i:Int)+1)).map enI by rw [List.map_set];rfl]
           conv=>whnf
           repeat first | refine W1 ?_ | refine W3 ?_ | ((first | refine W2 hT hM [] ?_ | refine W4 ?_ | refine W5 ?_ | refine W6 ?_ | refine W7 ?_ rfl);conv=>whnf)
           refine ⟨by omega,?_⟩
           conv=>whnf
           repeat first | refine W1 ?_ | refine W3 ?_ | ((first | refine W2 hT hM [] ?_ | refine W4 ?_ | refine W5 ?_ | refine W6 ?_ | refine W7 ?_ rfl);conv=>whnf)
           refine ⟨by omega,?_⟩
           conv=>whnf
           refine ⟨(at'.set g[k+1] ((i:Int)+1),(k+1)+1,cnt+1),[(27,some 27)],[],?_,⟨ha.step hG hg hkl,by dsimp only;omega⟩,by dsimp only;omega⟩
           ((conv=>whnf);repeat (first | exact True.intro | (refine And.intro (by first | rfl | exact ⟨rfl,rfl,rfl⟩ | exact ⟨rfl,rfl,by simp⟩ | exact ⟨rfl,rfl⟩ | exact ⟨rfl,by simp⟩ | (simp;done) | (simp;omega)) ?_;conv=>whnf)))
        ·have:k=g.length:=by simp at hb;omega
         subst this
         clear hb
         repeat first | refine W1 ?_ | refine W3 ?_ | ((first | refine W2 hT hM [] ?_ | refine W4 ?_ | refine W5 ?_ | refine W6 ?_ | refine W7 ?_ rfl);conv=>whnf)
         refine ⟨by omega,?_⟩
         conv=>whnf
         refine ⟨(at',i+1,cnt),[(27,some 27)],[],?_,⟨ha.next hg (Nat.le_refl _),by dsimp only;omega⟩,by dsimp only;omega⟩
         ((conv=>whnf);repeat (first | exact True.intro | (refine And.intro (by first | rfl | exact ⟨rfl,rfl,rfl⟩ | exact ⟨rfl,rfl,by simp⟩ | exact ⟨rfl,rfl⟩ | exact ⟨rfl,by simp⟩ | (simp;done) | (simp;omega)) ?_;conv=>whnf)))
      ·have:i=G.length:=by simp at hb;omega
       subst this
       clear hb
       have hcn:=ha.count hG hall
       have hcl:=ha.len
       repeat first | refine W1 ?_ | refine W3 ?_ | ((first | refine W2 hT hM [] ?_ | refine W4 ?_ | refine W5 ?_ | refine W6 ?_ | refine W7 ?_ rfl);conv=>whnf)
       refine WP.loop (α:=Nat) (fun i=>⟨[(1,.d (.ref [.list (atoms.map enT),.list (rules.map enG)] 0)),(4,.sl 27 1 0 n),(5,.d (.int .i64 cnt)),(9,.d (.int .i64 i))],[((27,0),some (.arr 1 (at'.map enI)))],[27]⟩)
        (fun i=>i≤rules.length) (fun i=>rules.length-i) 0 [(27,some 27)] [] ?_ ?_ ?_
       ·((conv=>whnf);repeat (first | exact True.intro | (refine And.intro (by first | rfl | exact ⟨rfl,rfl,rfl⟩ | exact ⟨rfl,rfl,by simp⟩ | exact ⟨rfl,rfl⟩ | exact ⟨rfl,by simp⟩ | (simp;done) | (simp;omega)) ?_;conv=>whnf)))
       ·exact Nat.zero_le _
       ·intro i hi
        repeat first | refine W1 ?_ | refine W3 ?_ | ((first | refine W2 hT hM [] ?_ | refine W4 ?_ | refine W5 ?_ | refine W6 ?_ | refine W7 ?_ rfl);conv=>whnf)
        rw [List.length_map]
        (split<;>rename_i hb<;>(try rw [hb])<;>(conv=>whnf))
        ·have hlt:i<rules.length:=by simpa using hb
         clear hb
         have hmem:rules[i]∈rules:=List.getElem_mem hlt
         have hhd:=hin.head rules[i] hmem
         have hbd:=hin.body rules[i] hmem
         have hle:∀ y:Int,(y∈rules[i].2.1∨y∈rules[i].2.2)→(0≤y∧y<n)∧∃ u v:Int,at'[rules[i].1.toNat]?=some u∧at'[y.toNat]?=some v∧v≤u:=fun y hy=>by
          have hyr:0≤y∧y<n:=hy.elim (hbd.1 y) (hbd.2 y)
          refine ⟨hyr,ha.order hG hall (by omega) (by omega) ?_⟩
          rw [show ((rules[i].1.toNat:Nat):Int)=rules[i].1 by omega,show ((y.toNat:Nat):Int)=y by omega]
          exact .one (QU hmem (by omega) hy)
         repeat first | refine W1 ?_ | refine W3 ?_ | ((first | refine W2 hT hM [] ?_ | refine W4 ?_ | refine W5 ?_ | refine W6 ?_ | refine W7 ?_ rfl);conv=>whnf)
         refine ⟨by omega,_,Zo hlt,rfl,?_⟩
         conv=>whnf
         repeat first | refine W1 ?_ | refine W3 ?_ | ((first | refine W2 hT hM [] ?_ | refine W4 ?_ | refine W5 ?_ | refine W6 ?_ | refine W7 ?_ rfl);conv=>whnf)
         refine WP.loop (α:=Nat) (fun k=>⟨[(1,.d (.ref [.list (atoms.map enT),.list (rules.map enG)] 0)),(4,.sl 27 1 0 n),(5,.d (.int .i64 cnt)),(9,.d (.int .i64 i)),(10,.ptr 10 0),(11,.d (.int .i64 k))],
           [((10,0),some (.cell (.d (.int .i64 rules[i].1)))),((10,1),some (.cell (.d (.list (rules[i].2.1.map enI))))),((10,2),some (.cell (.d (.list (rules[i].2.2.map enI))))),((27,0),some (.arr 1 (at'.map enI)))],[10,27]⟩)
          (fun k=>k≤(rules[i].2.1).length) (fun k=>(rules[i].2.1).length-k) 0 [(10,some 10),(27,some 27)] [] ?_ ?_ ?_
         ·((conv=>whnf);repeat (first | exact True.intro | (refine And.intro (by first | rfl | exact ⟨rfl,rfl,rfl⟩ | exact ⟨rfl,rfl,by simp⟩ | exact ⟨rfl,rfl⟩ | exact ⟨rfl,by simp⟩ | (simp;done) | (simp;omega)) ?_;conv=>whnf)))
         ·exact Nat.zero_le _
         ·intro k hk
          repeat first | refine W1 ?_ | refine W3 ?_ | ((first | refine W2 hT hM [] ?_ | refine W4 ?_ | refine W5 ?_ | refine W6 ?_ | refine W7 ?_ rfl);conv=>whnf)
          rw [List.length_map]
          (split<;>rename_i hb<;>(try rw [hb])<;>(conv=>whnf))
          ·have hkl:k<(rules[i].2.1).length:=by simpa using hb
           clear hb
           have hfi:=hf rules[i] hmem
           obtain ⟨hyr,u,v,hu,hv,hvu⟩:=hle (rules[i].2.1)[k] (.inl (List.getElem_mem hkl))
           repeat first | refine W1 ?_ | refine W3 ?_ | ((first | refine W2 hT hM [] ?_ | refine W4 ?_ | refine W5 ?_ | refine W6 ?_ | refine W7 ?_ rfl);conv=>whnf)
           refine ⟨by omega,_,bC hkl,rfl,?_⟩
           conv=>whnf
           refine ⟨by omega,?_⟩
           conv=>whnf
           refine ⟨_,wo hv,?_⟩
           conv=>whnf
           refine ⟨by omega,?_⟩
           conv=>whnf
           refine ⟨_,wo hu,?_⟩
           conv=>whnf
           repeat first | refine W1 ?_ | refine W3 ?_ | ((first | refine W2 hT hM [] ?_ | refine W4 ?_ | refine W5 ?_ | refine W6 ?_ | refine W7 ?_ rfl);conv=>whnf)
           rw [show decide (v>u)=false from decide_eq_false (by omega)]
           conv=>whnf
           repeat first | refine W1 ?_ | refine W3 ?_ | ((first | refine W2 hT hM [] ?_ | refine W4 ?_ | refine W5 ?_ | refine W6 ?_ | refine W7 ?_ rfl);conv=>whnf)
           refine ⟨by omega,?_⟩
           conv=>whnf
           refine ⟨k+1,[(10,some 10),(27,some 27)],[],?_,by omega,by omega⟩
           ((conv=>whnf);repeat (first | exact True.intro | (refine And.intro (by first | rfl | exact ⟨rfl,rfl,rfl⟩ | exact ⟨rfl,rfl,by simp⟩ | exact ⟨rfl,rfl⟩ | exact ⟨rfl,by simp⟩ | (simp;done) | (simp;omega)) ?_;conv=>whnf)))
          ·clear hb
           repeat first | refine W1 ?_ | refine W3 ?_ | ((first | refine W2 hT hM [] ?_ | refine W4 ?_ | refine W5 ?_ | refine W6 ?_ | refine W7 ?_ rfl);conv=>whnf)
           refine WP.loop (α:=Nat) (fun k=>⟨[(1,.d (.ref [.list (atoms.map enT),.list (rules.map enG)] 0)),(4,.sl 27 1 0 n),(5,.d (.int .i64 cnt)),(9,.d (.int .i64 i)),(10,.ptr 10 0),(12,.d (.int .i64 k))],
             [((10,0),some (.cell (.d (.int .i64 rules[i].1)))),((10,1),some (.cell (.d (.list (rules[i].2.1.map enI))))),((10,2),some (.cell (.d (.list (rules[i].2.2.map enI))))),((27,0),some (.arr 1 (at'.map enI)))],[10,27]⟩)
            (fun k=>k≤(rules[i].2.2).length) (fun k=>(rules[i].2.2).length-k) 0 [(10,some 10),(27,some 27)] [] ?_ ?_ ?_
           ·((conv=>whnf);repeat (first | exact True.intro | (refine And.intro (by first | rfl | exact ⟨rfl,rfl,rfl⟩ | exact ⟨rfl,rfl,by simp⟩ | exact ⟨rfl,rfl⟩ | exact ⟨rfl,by simp⟩ | (simp;done) | (simp;omega)) ?_;conv=>whnf)))
           ·exact Nat.zero_le _
           ·intro k hk
            repeat first | refine W1 ?_ | refine W3 ?_ | ((first | refine W2 hT hM [] ?_ | refine W4 ?_ | refine W5 ?_ | refine W6 ?_ | refine W7 ?_ rfl);conv=>whnf)
            rw [List.length_map]
            (split<;>rename_i hb<;>(try rw [hb])<;>(conv=>whnf))
            ·have hkl:k<(rules[i].2.2).length:=by simpa using hb
             clear hb
             have hfi:=hf rules[i] hmem
             obtain ⟨hyr,u,v,hu,hv,hvu⟩:=hle (rules[i].2.2)[k] (.inr (List.getElem_mem hkl))
             repeat first | refine W1 ?_ | refine W3 ?_ | ((first | refine W2 hT hM [] ?_ | refine W4 ?_ | refine W5 ?_ | refine W6 ?_ | refine W7 ?_ rfl);conv=>whnf)
             refine ⟨by omega,_,bC hkl,rfl,?_⟩
             conv=>whnf
             refine ⟨by omega,?_⟩
             conv=>whnf
             refine ⟨_,wo hv,?_⟩
             conv=>whnf
             refine ⟨by omega,?_⟩
             conv=>whnf
             refine ⟨_,wo hu,?_⟩
             conv=>whnf
             repeat first | refine W1 ?_ | refine W3 ?_ | ((first | refine W2 hT hM [] ?_ | refine W4 ?_ | refine W5 ?_ | refine W6 ?_ | refine W7 ?_ rfl);conv=>whnf)
             rw [show decide (v>u)=false from decide_eq_false (by omega)]
             conv=>whnf
             repeat first | refine W1 ?_ | refine W3 ?_ | ((first | refine W2 hT hM [] ?_ | refine W4 ?_ | refine W5 ?_ | refine W6 ?_ | refine W7 ?_ rfl);conv=>whnf)
             refine ⟨by omega,?_⟩
             conv=>whnf
             refine ⟨k+1,[(10,some 10),(27,some 27)],[],?_,by omega,by omega⟩
             ((conv=>whnf);repeat (first | exact True.intro | (refine And.intro (by first | rfl | exact ⟨rfl,rfl,rfl⟩ | exact ⟨rfl,rfl,by simp⟩ | exact ⟨rfl,rfl⟩ | exact ⟨rfl,by simp⟩ | (simp;done) | (simp;omega)) ?_;conv=>whnf)))
            ·clear hb
             repeat first | refine W1 ?_ | refine W3 ?_ | ((first | refine W2 hT hM [] ?_ | refine W4 ?_ | refine W5 ?_ | refine W6 ?_ | refine W7 ?_ rfl);conv=>whnf)
             refine ⟨by omega,?_⟩
             conv=>whnf
             refine ⟨i+1,[(27,some 27)],[],?_,by omega,by omega⟩
             ((conv=>whnf);repeat (first | exact True.intro | (refine And.intro (by first | rfl | exact ⟨rfl,rfl,rfl⟩ | exact ⟨rfl,rfl,by simp⟩ | exact ⟨rfl,rfl⟩ | exact ⟨rfl,by simp⟩ | (simp;done) | (simp;omega)) ?_;conv=>whnf)))
        ·clear hb
         repeat first | refine W1 ?_ | refine W3 ?_ | ((first | refine W2 hT hM [] ?_ | refine W4 ?_ | refine W5 ?_ | refine W6 ?_ | refine W7 ?_ rfl);conv=>whnf)
         refine .inl ⟨_,halive,.inl rfl,?_⟩
         conv=>whnf
         repeat first | refine W1 ?_ | refine W3 ?_ | ((first | refine W2 hT hM [] ?_ | refine W4 ?_ | refine W5 ?_ | refine W6 ?_ | refine W7 ?_ rfl);conv=>whnf)
         rw [List.length_map,hnn,hcn]
         simp
end Go.Proofs.YtoifejgcmkencaaGreat
namespace Go.Proofs.YtoifejgcmkencaaGreat
open Go Go.RowKit Go.ChangeShapes Go.WideShapes
theorem VB {a:Addr} (h:a.spot=none) (n:Nat):a.add n=⟨a.block,a.off+n,none⟩:=by
 obtain ⟨b,o,s⟩:=a
 have hs:s=none:=h
 subst hs
 exact Addr.add_lit _ _ _
theorem QB {w:World} {a:Addr} {v:Value} (h:w.cell? (a.add 0)=some v):a.spot=none∧a.block<w.heap.size:=by
 have e:a.add 0=a:=by simp [Addr.add]
 rw [e] at h
 unfold World.cell? at h
 cases hh:w.heap[a.block]? with
 | none=>rw [hh] at h;cases h
 | some ob=>
   rw [hh] at h
   refine ⟨?_,(Array.getElem?_eq_some_iff.1 hh).1⟩
   cases ob with
   | cells c t f=>
     cases hs:a.spot with
     | none=>rfl
     | some _=>simp [hs] at h
   | _=>cases h
theorem Ig {W:World} {a:Addr} {len cap sz:Nat} {xs:List Abs.D} (hxl:xs.length=len) (hl:len≤cap) (hm:cap≤maxLen) (hsz:0<sz) (h0:0<cap→∃ v,W.cell? (a.add 0)=some v)
  (hx:∀ (i:Nat) x,xs[i]?=some x→(Abs.D.cells x).length=sz∧∀ (j:Nat) c,(Abs.D.cells x)[j]?=some c→∃ u,W.cell? (a.add (i*sz+j))=some u∧u.oneCell'=true∧Abs.D.one c=true∧Abs.RdD (fun b=>b<W.heap.size) W u c) :
  Abs.RdD (fun b=>b<W.heap.size) W (.slice (some a) len cap) (.list xs):=by
 subst hxl
 rcases Nat.eq_zero_or_pos cap with hz | hz
 ·subst hz
  have:xs=[]:=List.length_eq_zero_iff.1 (by omega)
  subst this
  exact .lu _
 ·obtain ⟨v,hv⟩:=h0 hz
  obtain ⟨hs,hb⟩:=QB hv
  have hu:∀ (i:Nat) x (j:Nat) c,xs[i]?=some x→(Abs.D.cells x)[j]?=some c→∃ u,W.cell? ⟨a.block,a.off+(i*sz+j),none⟩=some u∧u.oneCell'=true∧Abs.D.one c=true∧Abs.RdD (fun b=>b<W.heap.size) W u c:=fun i x j c h hc=>by
   obtain ⟨_,h2⟩:=hx i x h
   obtain ⟨u,h3,h4⟩:=h2 j c hc
   rw [VB hs] at h3
   exact ⟨u,h3,h4⟩
  refine .lst a cap sz xs (fun i j=>(W.cell? ⟨a.block,a.off+(i*sz+j),none⟩).getD undef) hb hs hl hm hsz (fun i x h=>(hx i x h).1) (fun i x j c h hc=>?_) (fun i x j c h hc=>?_)
  ·obtain ⟨u,h1,h2,h3,_⟩:=hu i x j c h hc
   rw [h1];exact ⟨rfl,h2,h3⟩
  ·obtain ⟨u,h1,_,_,h4⟩:=hu i x j c h hc
   rw [h1];exact h4
section
open Go.Abs Go.Own
variable {H:Type} {enc:TypeId×Value→H} {W:World} {held:Bool}
theorem Yv {ok:Nat→Prop} {W:World} {s:ByteArray} (h:s.size≤maxLen):RdD ok W (.string s) (.str s.data.toList):=by
 have:(Value.string s) = .string ⟨s.data.toList.toArray⟩:=by simp
 rw [this]
 exact .str _ (by simpa using h)
def aa6 (W:World) (t:Tm) (v0 v1:Value):Prop:=v0.oneCell'=true∧v1.oneCell'=true∧RdD (fun b=>b<W.heap.size) W v0 (.str t.name)∧RdD (fun b=>b<W.heap.size) W v1 (.list (t.args.map enT))
set_option maxRecDepth 100000 in
theorem Tc {n:Nat} {cs:List Value} {x:DataW H×List MemPlace} (h:DataW.trod enc Tryz.prog W 0 (fun _=>true) held n 22 cs=some x)
  (IH:∀ (n:Nat) (cs:List Value) (y:DataW H×List MemPlace),SizeOf.sizeOf y.1<SizeOf.sizeOf x.1→DataW.trod enc Tryz.prog W 0 (fun _=>true) held n 59 cs=some y→∃ (t:Tm) (v0 v1:Value),cs=[v0,v1]∧aa6 W t v0 v1∧okT t) :
  ∃ (v:Value) (l:List Tm),cs=[v]∧v.oneCell'=true∧RdD (fun b=>b<W.heap.size) W v (.list (l.map enT))∧(∀ t∈l,okT t)∧l.length≤maxLen∧(l=[]∨∃ ds sp,x.1 = .slice ds sp∧l.length=ds.length):=by
 have k2:Tryz.prog.cellsOf 59=2:=by kernel_rfl
 rcases Deep.open_slice Tryz.underlying22 h with ⟨rfl,rfl⟩ | ⟨a,len,cap,m,n',DD,Pl,rfl,_,hl,hm,hmm,hx,hel⟩
 ·exact ⟨_,[],rfl,rfl,.lu _,(fun _ h=>by cases h),by simp,.inl rfl⟩
 simp only [if_true] at hmm
 subst hmm
 rw [k2] at hel
 haveI:Inhabited Tm:=⟨.mk [] []⟩
 obtain ⟨y,hy⟩:=Deep.choose_lt (α:=Tm) (n:=len) (p:=fun i t=>(∃ v0 v1,W.cell? (a.add (i*2+0))=some v0∧W.cell? (a.add (i*2+1))=some v1∧aa6 W t v0 v1)∧okT t) (fun i hi=>by
  obtain ⟨cs',h1,h2⟩:=hel i (by omega)
  obtain ⟨t,v0,v1,rfl,ht,hok⟩:=IH _ _ _ (by
   rw [hx]
   have hmem:DD i∈(List.range len).map DD:=List.mem_map.2 ⟨i,List.mem_range.2 hi,rfl⟩
   have:=List.sizeOf_lt_of_mem hmem
   simp only [DataW.slice.sizeOf_spec]
   omega) h2
  obtain ⟨_,_,h3⟩:=World.cells?_some h1
  have e0:=h3 0 (by omega)
  have e1:=h3 1 (by omega)
  rw [Deep.add_add] at e0 e1
  exact ⟨t,⟨v0,v1,by simpa using e0,by simpa using e1,ht⟩,hok⟩)
 refine ⟨_,(List.range len).map y,rfl,rfl,?_,fun t ht=>?_,by simp;omega,.inr ⟨_,_,congrArg Prod.fst hx,by simp⟩⟩
 ·refine Ig (sz:=2) (by simp) hl hm (by decide) (fun hc=>?_) fun i x hi=>?_
  ·obtain ⟨cs',h1,_⟩:=hel 0 hc
   obtain ⟨_,hlen,h3⟩:=World.cells?_some h1
   have:=h3 0 (by omega)
   rw [Deep.add_add,Nat.zero_mul] at this
   rw [this]
   exact ⟨_,List.getElem?_eq_getElem (by omega)⟩
  ·simp only [List.map_map,List.getElem?_map,Option.map_eq_some_iff] at hi
   obtain ⟨r,hri,rfl⟩:=hi
   have hi:i<len:=by have:=(List.getElem?_eq_some_iff.1 hri).1;simpa using this
   obtain rfl:r=i:=by rw [List.getElem?_range hi] at hri;exact (Option.some.inj hri).symm
   obtain ⟨⟨v0,v1,c0,c1,o0,o1,r0,r1⟩,_⟩:=hy r hi
   rw [show (enT ∘ y) r=tD (y r).name (y r).args from U3 _]
   refine ⟨rfl,fun j c hc=>?_⟩
   have hc:[D.str (y r).name,D.list ((y r).args.map enT)][j]?=some c:=hc
   match j,hc with
   | 0,hc=>obtain rfl:=Option.some.inj hc;exact ⟨v0,c0,o0,rfl,r0⟩
   | 1,hc=>obtain rfl:=Option.some.inj hc;exact ⟨v1,c1,o1,rfl,r1⟩
   | j+2,hc=>simp at hc
 ·obtain ⟨r,hr,rfl⟩:=List.mem_map.1 ht
  exact (hy r (List.mem_range.1 hr)).2
set_option maxRecDepth 100000 in
theorem Xw:∀ (N n:Nat) (cs:List Value) (x:DataW H×List MemPlace),SizeOf.sizeOf x.1<N→DataW.trod enc Tryz.prog W 0 (fun _=>true) held n 59 cs=some x→∃ (t:Tm) (v0 v1:Value),cs=[v0,v1]∧aa6 W t v0 v1∧okT t
 | 0,_,_,_,hN,_=>by omega
 | N+1,n,cs,x,hN,h=>by
   have k1:Tryz.prog.cellsOf 9=1:=by kernel_rfl
   have k1':Tryz.prog.cellsOf 22=1:=by kernel_rfl
   have k2:Tryz.prog.cellsOf 59=2:=by kernel_rfl
   obtain ⟨y0,y1,m,hx,hl,h0,h1⟩:=trod_struct2 Tryz.underlying59 h
   rw [k2] at hl
   match cs,hl with
   | [c0,c1],_=>
     simp only [k1,k1',List.drop,List.take] at h0 h1
     obtain ⟨s,e0,_,hs⟩:=DataW.trod_string Tryz.underlying9 h0
     cases e0
     have hsz:SizeOf.sizeOf y1.1<N:=by
      rw [hx] at hN
      simp at hN
      omega
     obtain ⟨v,l,e1,o1,r1,hok,hlen,_⟩:=Tc h1 (fun n' cs' y hy hh=>Xw N n' cs' y (by omega) hh)
     cases e1
     exact ⟨.mk s.data.toList l,_,_,rfl,⟨rfl,o1,Yv hs,r1⟩,lM.2 ⟨by simp only [Tm.args];simp only [maxLen] at hlen;omega,hok⟩⟩
theorem weightsAll_mem {P:Program} {e:TypeId} {d:DataW H} {w:Nat}:∀ {ds:List (DataW H)},d∈ds→w∈d.weights P e→w∈DataW.weightsAll P e ds
 | d'::ds,hm,hw=>by
   rw [DataW.weightsAll]
   rcases List.mem_cons.1 hm with rfl | hm
   ·exact List.mem_append_left _ hw
   ·exact List.mem_append_right _ (weightsAll_mem hm hw)
def Light (t:TypeId) (d:DataW H):Prop:=∀ w∈d.weights Tryz.prog t,w≤reachBytes
theorem Light.slice {t e:TypeId} {ds sp:List (DataW H)} (hu:Tryz.prog.underlying t=some (.slice e)) (h:Light t (.slice ds sp)):(ds.length+sp.length)*Tryz.prog.bytesOf e≤reachBytes∧∀ d∈ds,Light e d:=by
 unfold Light at h
 rw [DataW.weights,hu] at h
 exact ⟨h _ (List.mem_cons_self ..),fun d hd w hw=>h w (List.mem_cons_of_mem _ (List.mem_append_left _ (weightsAll_mem hd hw)))⟩
theorem Light.ae9 {t:TypeId} {f0 f1:Field} {d0 d1:DataW H} (hu:Tryz.prog.underlying t=some (.struct #[f0,f1])) (h:Light t (.agg [d0,d1])):Light f0.type d0∧Light f1.type d1:=by
 unfold Light at h
 rw [DataW.weights,hu] at h
 simp only [List.map_cons,List.map_nil,DataW.weightsEach] at h
 exact ⟨fun w hw=>h w (by simp [hw]),fun w hw=>h w (by simp [hw])⟩
theorem Light.ae8 {t:TypeId} {f0 f1 f2:Field} {d0 d1 d2:DataW H} (hu:Tryz.prog.underlying t=some (.struct #[f0,f1,f2])) (h:Light t (.agg [d0,d1,d2])):Light f0.type d0∧Light f1.type d1∧Light f2.type d2:=by
 unfold Light at h
 rw [DataW.weights,hu] at h
 simp only [List.map_cons,List.map_nil,DataW.weightsEach] at h
 exact ⟨fun w hw=>h w (by simp [hw]),fun w hw=>h w (by simp [hw]),fun w hw=>h w (by simp [hw])⟩
set_option maxRecDepth 100000 in
theorem OI {n:Nat} {cs:List Value} {x:DataW H×List MemPlace} (h:DataW.trod enc Tryz.prog W 0 (fun _=>true) held n 30 cs=some x) (hw:Light 30 x.1) :
  ∃ (v:Value) (l:List Int),cs=[v]∧v.oneCell'=true∧RdD (fun b=>b<W.heap.size) W v (.list (l.map enI))∧l.length≤reachBytes:=by
 have k1:Tryz.prog.cellsOf 3=1:=by kernel_rfl
 have b1:Tryz.prog.bytesOf 3=8:=by kernel_rfl
 rcases Deep.open_slice Tryz.underlying30 h with ⟨rfl,rfl⟩ | ⟨a,len,cap,m,n',DD,Pl,rfl,_,hl,hm,hmm,hx,hel⟩
 ·exact ⟨_,[],rfl,rfl,.lu _,by simp⟩
 simp only [if_true] at hmm
 subst hmm
 rw [k1] at hel
 obtain ⟨y,hy⟩:=Deep.choose_lt (α:=Int) (n:=len) (p:=fun i z=>W.cell? (a.add (i*1))=some (.int .i64 z)) (fun i hi=>by
  obtain ⟨cs',h1,h2⟩:=hel i (by omega)
  obtain ⟨z,rfl,_,_⟩:=DataW.trod_int Tryz.underlying3 h2
  obtain ⟨_,_,h3⟩:=World.cells?_some h1
  have e0:=h3 0 (by omega)
  rw [Deep.add_add] at e0
  exact ⟨z,by simpa using e0⟩)
 rw [hx] at hw
 have hwl:=(Light.slice Tryz.underlying30 hw).1
 rw [b1] at hwl
 simp only [List.length_map,List.length_range] at hwl
 refine ⟨_,(List.range len).map y,rfl,rfl,?_,by simp;omega⟩
 refine Ig (sz:=1) (by simp) hl hm (by decide) (fun hc=>?_) fun i x hi=>?_
 ·obtain ⟨cs',h1,_⟩:=hel 0 hc
  obtain ⟨_,hlen,h3⟩:=World.cells?_some h1
  have:=h3 0 (by omega)
  rw [Deep.add_add,Nat.zero_mul] at this
  rw [this]
  exact ⟨_,List.getElem?_eq_getElem (by omega)⟩
 ·simp only [List.map_map,List.getElem?_map,Option.map_eq_some_iff] at hi
  obtain ⟨r,hri,rfl⟩:=hi
  have hi:i<len:=by have:=(List.getElem?_eq_some_iff.1 hri).1;simpa using this
  obtain rfl:r=i:=by rw [List.getElem?_range hi] at hri;exact (Option.some.inj hri).symm
  refine ⟨rfl,fun j c hc=>?_⟩
  have hc:[D.int .i64 (y r)][j]?=some c:=hc
  match j,hc with
  | 0,hc=>obtain rfl:=Option.some.inj hc;exact ⟨_,hy r hi,rfl,rfl,.int _ _⟩
  | j+1,hc=>simp at hc
def adB (W:World) (r:Gr) (v1 v2:Value):Prop:=v1.oneCell'=true∧v2.oneCell'=true∧RdD (fun b=>b<W.heap.size) W v1 (.list (r.2.1.map enI))∧RdD (fun b=>b<W.heap.size) W v2 (.list (r.2.2.map enI))
set_option maxRecDepth 100000 in
theorem VX {n:Nat} {cs:List Value} {x:DataW H×List MemPlace} (h:DataW.trod enc Tryz.prog W 0 (fun _=>true) held n 32 cs=some x) (hw:Light 32 x.1) :
  ∃ (r:Gr) (v1 v2:Value),cs=[.int .i64 r.1,v1,v2]∧adB W r v1 v2∧r.2.1.length≤reachBytes∧r.2.2.length≤reachBytes:=by
 have k1:Tryz.prog.cellsOf 3=1:=by kernel_rfl
 have k1':Tryz.prog.cellsOf 30=1:=by kernel_rfl
 have k3:Tryz.prog.cellsOf 32=3:=by kernel_rfl
 obtain ⟨y0,y1,y2,m,hx,hl,h0,h1,h2⟩:=Deep.trod_struct3 Tryz.underlying32 h
 rw [k3] at hl
 rw [hx] at hw
 obtain ⟨_,w1,w2⟩:=Light.ae8 Tryz.underlying32 hw
 match cs,hl with
 | [c0,c1,c2],_=>
   simp only [k1,k1',List.drop,List.take] at h0 h1 h2
   obtain ⟨z,e0,_,_⟩:=DataW.trod_int Tryz.underlying3 h0
   obtain ⟨v1,l1,e1,o1,r1,g1⟩:=OI h1 w1
   obtain ⟨v2,l2,e2,o2,r2,g2⟩:=OI h2 w2
   cases e0;cases e1;cases e2
   exact ⟨(z,l1,l2),_,_,rfl,⟨o1,o2,r1,r2⟩,g1,g2⟩
set_option maxRecDepth 100000 in
theorem Td {n:Nat} {cs:List Value} {x:DataW H×List MemPlace} (h:DataW.trod enc Tryz.prog W 0 (fun _=>true) held n 23 cs=some x) (hw:Light 23 x.1) :
  ∃ (v:Value) (l:List Gr),cs=[v]∧v.oneCell'=true∧RdD (fun b=>b<W.heap.size) W v (.list (l.map enG))∧l.length≤reachBytes∧∀ r∈l,r.2.1.length≤reachBytes∧r.2.2.length≤reachBytes:=by
 have k3:Tryz.prog.cellsOf 32=3:=by kernel_rfl
 have b3:Tryz.prog.bytesOf 32=56:=by kernel_rfl
 rcases Deep.open_slice Tryz.underlying23 h with ⟨rfl,rfl⟩ | ⟨a,len,cap,m,n',DD,Pl,rfl,_,hl,hm,hmm,hx,hel⟩
 ·exact ⟨_,[],rfl,rfl,.lu _,by simp,fun _ h=>by cases h⟩
 simp only [if_true] at hmm
 subst hmm
 rw [k3] at hel
 rw [hx] at hw
 obtain ⟨hwl,hwe⟩:=Light.slice Tryz.underlying23 hw
 rw [b3] at hwl
 simp only [List.length_map,List.length_range] at hwl
 obtain ⟨y,hy⟩:=Deep.choose_lt (α:=Gr) (n:=len) (p:=fun i r=>(∃ v1 v2,W.cell? (a.add (i*3+0))=some (.int .i64 r.1)∧W.cell? (a.add (i*3+1))=some v1∧W.cell? (a.add (i*3+2))=some v2∧adB W r v1 v2)∧r.2.1.length≤reachBytes∧r.2.2.length≤reachBytes) (fun i hi=>by
  obtain ⟨cs',h1,h2⟩:=hel i (by omega)
  obtain ⟨r,v1,v2,rfl,hr,g1,g2⟩:=VX h2 (hwe _ (List.mem_map.2 ⟨i,List.mem_range.2 hi,rfl⟩))
  obtain ⟨_,_,h3⟩:=World.cells?_some h1
  have e0:=h3 0 (by omega)
  have e1:=h3 1 (by omega)
  have e2:=h3 2 (by omega)
  rw [Deep.add_add] at e0 e1 e2
  exact ⟨r,⟨v1,v2,by simpa using e0,by simpa using e1,by simpa using e2,hr⟩,g1,g2⟩)
 refine ⟨_,(List.range len).map y,rfl,rfl,?_,by simp;omega,fun r hr=>?_⟩
 ·refine Ig (sz:=3) (by simp) hl hm (by decide) (fun hc=>?_) fun i x hi=>?_
  ·obtain ⟨cs',h1,_⟩:=hel 0 hc
   obtain ⟨_,hlen,h3⟩:=World.cells?_some h1
   have:=h3 0 (by omega)
   rw [Deep.add_add,Nat.zero_mul] at this
   rw [this]
   exact ⟨_,List.getElem?_eq_getElem (by omega)⟩
  ·simp only [List.map_map,List.getElem?_map,Option.map_eq_some_iff] at hi
   obtain ⟨r,hri,rfl⟩:=hi
   have hi:i<len:=by have:=(List.getElem?_eq_some_iff.1 hri).1;simpa using this
   obtain rfl:r=i:=by rw [List.getElem?_range hi] at hri;exact (Option.some.inj hri).symm
   obtain ⟨⟨v1,v2,c0,c1,c2,o1,o2,r1,r2⟩,_⟩:=hy r hi
   refine ⟨rfl,fun j c hc=>?_⟩
   have hc:[D.int .i64 (y r).1,D.list ((y r).2.1.map enI),D.list ((y r).2.2.map enI)][j]?=some c:=hc
   match j,hc with
   | 0,hc=>obtain rfl:=Option.some.inj hc;exact ⟨_,c0,rfl,rfl,.int _ _⟩
   | 1,hc=>obtain rfl:=Option.some.inj hc;exact ⟨v1,c1,o1,rfl,r1⟩
   | 2,hc=>obtain rfl:=Option.some.inj hc;exact ⟨v2,c2,o2,rfl,r2⟩
   | j+3,hc=>simp at hc
 ·obtain ⟨q,hq,rfl⟩:=List.mem_map.1 hr
  exact (hy q (List.mem_range.1 hq)).2
set_option maxRecDepth 100000 in
theorem QL {r:Reach} {b0:Nat} {v:Value} {d:DataW H} {p:List MemPlace} (hval:Value.okWide Tryz.prog W r b0 25 v) (h:DataW.Trod enc Tryz.prog W 0 (fun _=>true) held 25 v d p) (hw:Light 25 d) :
  ∃ (atoms:List Tm) (rules:List Gr),RdD (fun b=>b<W.heap.size) W v (gD atoms rules)∧(∀ x∈atoms,okT x)∧atoms.length≤reachBytes∧rules.length≤reachBytes∧∀ r∈rules,r.2.1.length≤reachBytes∧r.2.2.length≤reachBytes:=by
 have k1:Tryz.prog.cellsOf 22=1:=by kernel_rfl
 have k1':Tryz.prog.cellsOf 23=1:=by kernel_rfl
 have k2:Tryz.prog.cellsOf 25=2:=by kernel_rfl
 have b2:Tryz.prog.bytesOf 59=40:=by kernel_rfl
 obtain ⟨vs,rfl,hsz⟩:=okWide_struct Tryz.underlying25 hval
 obtain ⟨fuel,h⟩:=h
 obtain ⟨y0,y1,m,hx,hl,h0,h1⟩:=trod_struct2 Tryz.underlying25 h
 rw [k2] at hsz
 obtain ⟨c0,c1,rfl⟩:∃ c0 c1,vs=#[c0,c1]:=by
  match vs,hsz with
  | ⟨[c0,c1]⟩,_=>exact ⟨c0,c1,rfl⟩
 have h0:DataW.trod enc Tryz.prog W 0 (fun _=>true) held m 22 [c0]=some y0:=by
  rw [k1] at h0;exact h0
 have h1:DataW.trod enc Tryz.prog W 0 (fun _=>true) held m 23 [c1]=some y1:=by
  rw [k1'] at h1;exact h1
 have hd:d = .agg [y0.1,y1.1]:=congrArg Prod.fst hx
 subst hd
 obtain ⟨w0,w1⟩:=Light.ae9 Tryz.underlying25 hw
 obtain ⟨va,la,ea,oa,ra,hok,_,hsl⟩:=Tc h0 (fun n' cs' y _ hh=>Xw _ n' cs' y (Nat.lt_succ_self _) hh)
 obtain ⟨vr,lr,er,orr,rr,g1,g2⟩:=Td h1 w1
 cases ea;cases er
 refine ⟨la,lr,?_,hok,?_,g1,g2⟩
 ·refine .agg _ _ rfl (fun i v c hv hc=>?_) (fun i v c hv hc=>?_)
  ·match i,hv,hc with
   | 0,hv,hc=>cases hv;cases hc;exact ra
   | 1,hv,hc=>cases hv;cases hc;exact rr
   | i+2,hv,hc=>simp at hc
  ·match i,hv,hc with
   | 0,hv,hc=>cases hv;cases hc;exact ⟨oa,rfl⟩
   | 1,hv,hc=>cases hv;cases hc;exact ⟨orr,rfl⟩
   | i+2,hv,hc=>simp at hc
 ·rcases hsl with rfl | ⟨ds,sp,hy,hlen⟩
  ·simp
  ·rw [hy] at w0
   have:=(Light.slice Tryz.underlying22 w0).1
   rw [b2] at this
   omega
end
end Go.Proofs.YtoifejgcmkencaaGreat
namespace Go.Proofs.YtoifejgcmkencaaGreat
open Go Go.RowKit
set_option maxRecDepth 100000 in
theorem alive_pure:Abs.Pure Tryz.prog 6 [] [.bool true]:=by
 refine ⟨⟨_,Tryz.func6,by kernel_rfl,rfl⟩,fun ok w vs hgl hokb hsz hrd=>?_⟩
 obtain rfl:vs=#[]:=Array.eq_empty_of_size_eq_zero hsz
 refine (Sim.Jh (T:=T) (ng:=1) (gs:=[]) (F:=Qc) (cs:=fun _=>[]) (us:=fun _=>[]) (vs:=[]) Xe (by kernel_rfl) (by decide) rfl rfl
  (fun g => .nil) (fun k hk=>by cases hk) (fun k hk=>by cases hk) (fun k hk g i c u hc hu=>by cases hk)).mono ?_
 rintro e w' ⟨rfl,hb⟩
 exact ⟨_,rfl,⟨hb.os,hb.tape,hb.output,hb.size,fun b hb' _=>hb.block b hb',fun b c T fz hbc=>⟨c,(hb.block b (Array.getElem?_eq_some_iff.1 hbc).1).trans hbc,rfl,fun _ _=>rfl⟩⟩,.bool true⟩
theorem gok (w:World):Abs.GOK (fun b=>b<w.heap.size) w:=fun g h=>absurd (Abs.Zw g) h
open Go.ChangeShapes Go.WideShapes Go.ChangeAt
theorem MR {H:Type} {enc:TypeId×Value→H} {P:Program} {f:Func} {s:ChangeSpec} {apart fresh handsOn again:Bool} {W W':World} {args:Array Value} {v:Value} {ds gs:List (DataW H)} {before pa pv:List MemPlace}
  (hW:DataW.Whole enc P f.params.toList s.vars apart W args.toList ds gs before) (hb:Below W.heap.size W W')
  (hres:∀ (b:Nat) (sp:Nat→Bool) (hd:Bool),DataW.TrodAll enc P W' b sp hd f.resultTypes.toList (v.resultList f.resultTypes.size) (s.fn H (ds++gs)).results [])
  (hargs:∀ sp:Nat→Bool,(∀ p∈before,sp p.block=true)→DataW.TrodAll enc P W' 0 sp true f.params.toList args.toList (s.fn H (ds++gs)).args pa)
  (hvars:∀ sp:Nat→Bool,(∀ p∈before,sp p.block=true)→DataW.TrodVars enc P W' sp s.vars (s.fn H (ds++gs)).vars pv)
  (hps:before=pa++pv)
  (hok:∀ (j:Nat) (t:TypeId) (r:Value),f.resultTypes[j]?=some t→(v.resultList f.resultTypes.size)[j]?=some r→Value.okWide P W' .any 0 t r) :
  s.post enc P f apart fresh handsOn again W args v W':=by
 have hlt:∀ p∈before,p.block<W.heap.size:=fun p hp=>by simpa using hW.lt p hp
 have hd:∀ p∈before,(fun b=>decide (b<W.heap.size)) p.block=true:=fun p hp=>by simpa using hlt p hp
 have ht:∀ p∈before,(fun _:Nat=>true) p.block=true:=fun _ _=>rfl
 refine ⟨ds,gs,before,[],pa,pv,hW,hres _ _ _,hargs _ hd,hvars _ hd,hb.frame _,fun _=>⟨hok,(s.fn H (ds++gs)).results++(s.fn H (ds++gs)).args,(s.fn H (ds++gs)).vars,before,⟨pa,pv,trodAll_append (hargs _ ht) (hres _ _ _),hvars _ ht,hps,fun b off hp=>?_,?_⟩,fun p hp _=>hp⟩⟩
 ·obtain ⟨_,_,_,_,_,hz,_⟩:=hW
  exact (hb.frozen (hlt _ hp)).trans (hz b off hp)
 ·obtain ⟨_,_,_,_,_,_,hn⟩:=hW
  exact hn
theorem own:ownKnob Tryz.prog.godebug=none:=by kernel_rfl
theorem laidOut:laidOutB Tryz.prog=true:=by kernel_rfl
set_option maxRecDepth 100000 in
theorem contract (H:Type) (enc:TypeId×Value→H) (W:World) (args:Array Value) (ds gs:List (DataW H)) (before:List MemPlace) (base:Nat)
  (hval:∀ (j:Nat) t v,Tryz.f3.params[j]?=some t→args[j]?=some v→Value.okWide Tryz.prog W .any base t v)
  (hW:DataW.Whole enc Tryz.prog Tryz.f3.params.toList Rows.compileOrderSpec.vars false W args.toList ds gs before)
  (hz:(DataW.weightsEach Tryz.prog (Tryz.f3.params.toList++(OpenSpec.ofChange Rows.compileOrderSpec).bare.plain.varTypes Tryz.prog) (ds++gs)).all (·≤reachBytes)=true) :
  Calls Tryz.prog 3 args W fun e W'=>∃ v,e = .returned v∧Rows.compileOrderSpec.post enc Tryz.prog Tryz.f3 false true false false W args v W':=by
 have hW':=hW
 obtain ⟨p,q,hA0,hV,rfl,hfz,hnd⟩:=hW
 have hA:DataW.TrodAll enc Tryz.prog W 0 (fun _=>true) true Tryz.f3.params.toList args.toList ds p:=hA0
 rw [Tryz.params3] at hA hval hz
 obtain ⟨v0,vs0,d0,ds0,p0,q0,hargs,rfl,rfl,h0,r0⟩:=trodAll_cons hA
 obtain ⟨rfl,rfl,rfl⟩:=trodAll_nil r0
 obtain rfl:args=#[v0]:=by cases args;simp_all
 obtain ⟨rfl,rfl⟩:=trodVars_none hV
 clear hA0 hA
 have hw:Light 25 d0:=fun x hx=>by
  have hm:x∈DataW.weightsEach Tryz.prog [25] [d0]:=by
   simp only [DataW.weightsEach]
   exact List.mem_append_left _ hx
  have:=List.all_eq_true.1 hz x hm
  exact of_decide_eq_true this
 obtain ⟨atoms,rules,hb,hok,g1,g2,g3⟩:=QL (hval 0 25 v0 rfl rfl) h0 hw
 have hR:reachBytes≤4000000000000000000:=by decide
 refine ((Tryz.compileOrder alive_pure atoms rules hok (by omega) (by omega) (fun r hr=>by have:=g3 r hr;omega)).calls (fun b=>b<W.heap.size) W #[v0] (gok W) (fun _ h=>h) rfl (fun i u d' hu hd=>?_)).mono fun e W' ⟨v,he,hf,hr⟩=>?_
 ·match i with
  | 0=>simp at hu hd;subst hu;subst hd;exact hb
  | i+1=>simp at hu
 have hg:Below W.heap.size W W':=⟨hf.os,hf.tape,hf.output,hf.size,fun b hb=>hf.kM b hb⟩
 subst he
 have hv:v = .bool true:=by cases hr;rfl
 subst hv
 have hlt:∀ x∈p0++[]++[],x.block<W.heap.size:=fun x hx=>by simpa using hW'.lt x hx
 refine ⟨_,rfl,MR (pa:=p0++[]) (pv:=[]) hW' hg (fun _ _ _=>trodAll_cons_mk (shut_bool Tryz.underlying4 _) trodAll_mk0) (fun sp hs=>?_) (fun _ _=>rfl) rfl (ok_one (by kernel_rfl) rfl (okWide_bool_mk Tryz.underlying4 _))⟩
 have e0:=WideElems.Trod_stays (sp':=sp) (W':=W') laidOut (by kernel_rfl) (of_decide_eq_true (by kernel_rfl)) h0 (fun x hx=>hg.same (hlt x (by simp [hx]))) (fun x hx=>hs x (by simp [hx]))
 exact trodAll_cons_mk e0 trodAll_mk0
end Go.Proofs.YtoifejgcmkencaaGreat
