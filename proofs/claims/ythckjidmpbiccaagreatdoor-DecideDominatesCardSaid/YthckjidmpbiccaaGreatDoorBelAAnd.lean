/- Walks: fractions. -/
import Derived.Test.YthckjidmpbiccaaGreatDoorBelMOne
import Derived.Test.YthckjidmpbiccaaGreatDoorOwnTAnd
import Derived.Deep.Matrix
import Derived.Deep.DeepHandedRow
import Derived.Lib.LaidTab
set_option linter.unusedVariables false
set_option linter.unusedSimpArgs false
set_option linter.all false
namespace Go.Proofs.YthckjidmpbiccaaGreatDoor
open Go Go.Abs Go.Own
attribute [local irreducible] WP
def I64 (n:Int):Prop:=-9223372036854775808≤n∧n≤9223372036854775807
def enU (n:Nat):D := .int .u64 n
def enQ (f:Fr):D := .agg [.int .i64 f.1,.int .i64 f.2]
theorem SY (n:Int) (h0:0≤n) (h:n<18446744073709551616):IntKind.u64.wrap n=n:=by
 unfold IntKind.wrap;simp [IntKind.bits,IntKind.signed];omega
theorem eqQ (f g:Fr):aU [.int .i64 f.1,.int .i64 f.2] [.int .i64 g.1,.int .i64 g.2]=decide (f=g):=by
 rw [Bool.eq_iff_iff,decide_eq_true_iff,Prod.ext_iff]
 simp [aU,eq1]
theorem Gg {x y:Int} (h1:-mst≤x) (h2:x≤mst) (h3:1≤y) (h4:y≤mst):-(1152921504606846976:Int)≤x*y∧x*y≤1152921504606846976:=by
 have e:(1152921504606846976:Int)=mst*mst:=by decide
 rw [e]
 have hm:(0:Int)≤mst:=by decide
 constructor
 ·have:-x*y≤(mst:Int)*(mst:Int):=Int.mul_le_mul (by omega) h4 (by omega) hm
  rw [Int.neg_mul] at this;omega
 ·exact Int.mul_le_mul h2 h4 (by omega) hm
theorem Tryz.compare (a b:Fr) (ka:okF a=true) (kb:okF b=true):Pure Tryz.prog 25 [enQ a,enQ b] [.int .i64 (qY a b)]:=by
 refine Pure.of_wp hT (nt:=_) (c:=_) Tryz.func25 rfl rfl rfl rfl (by kernel_rfl) ?_
 intro w0 ok0 β0
 obtain ⟨a1,a2,a3,a4,_⟩:=iI.1 ka
 obtain ⟨b1,b2,b3,b4,_⟩:=iI.1 kb
 have m1:=Gg a3 a4 b1 b2
 have m2:=Gg b3 b4 a1 a2
 repeat first | refine W1 ?_ | refine W3 ?_ | ((first | refine W2 hT hM [] ?_ | refine W4 ?_ | refine W5 ?_ | refine W6 ?_ | refine W7 ?_ rfl);conv=>whnf)
 refine ⟨by omega,?_⟩
 conv=>whnf
 refine ⟨by omega,?_⟩
 conv=>whnf
 repeat first | refine W1 ?_ | refine W3 ?_ | ((first | refine W2 hT hM [] ?_ | refine W4 ?_ | refine W5 ?_ | refine W6 ?_ | refine W7 ?_ rfl);conv=>whnf)
 rw [eqQ]
 by_cases hab:a=b
 ·rw [decide_eq_true hab]
  repeat first | refine W1 ?_ | refine W3 ?_ | ((first | refine W2 hT hM [] ?_ | refine W4 ?_ | refine W5 ?_ | refine W6 ?_ | refine W7 ?_ rfl);conv=>whnf)
  subst hab
  unfold qY;rw [if_neg (by omega),if_neg (by omega)]
 ·rw [decide_eq_false hab]
  repeat first | refine W1 ?_ | refine W3 ?_ | ((first | refine W2 hT hM [] ?_ | refine W4 ?_ | refine W5 ?_ | refine W6 ?_ | refine W7 ?_ rfl);conv=>whnf)
  (split<;>rename_i hb<;>(try rw [hb])<;>(conv=>whnf))
  ·have h1:a.1*b.2<b.1*a.2:=by simpa using hb
   repeat first | refine W1 ?_ | refine W3 ?_ | ((first | refine W2 hT hM [] ?_ | refine W4 ?_ | refine W5 ?_ | refine W6 ?_ | refine W7 ?_ rfl);conv=>whnf)
   unfold qY;rw [if_pos h1]
  ·have h1:¬ a.1*b.2<b.1*a.2:=by simpa using hb
   clear hb
   repeat first | refine W1 ?_ | refine W3 ?_ | ((first | refine W2 hT hM [] ?_ | refine W4 ?_ | refine W5 ?_ | refine W6 ?_ | refine W7 ?_ rfl);conv=>whnf)
   (split<;>rename_i hb<;>(try rw [hb])<;>(conv=>whnf))
   ·have h2:b.1*a.2<a.1*b.2:=by simpa using hb
    repeat first | refine W1 ?_ | refine W3 ?_ | ((first | refine W2 hT hM [] ?_ | refine W4 ?_ | refine W5 ?_ | refine W6 ?_ | refine W7 ?_ rfl);conv=>whnf)
    unfold qY;rw [if_neg h1,if_pos h2]
   ·have h2:¬ b.1*a.2<a.1*b.2:=by simpa using hb
    repeat first | refine W1 ?_ | refine W3 ?_ | ((first | refine W2 hT hM [] ?_ | refine W4 ?_ | refine W5 ?_ | refine W6 ?_ | refine W7 ?_ rfl);conv=>whnf)
    unfold qY;rw [if_neg h1,if_neg h2]
def okI (f:Fr):Prop:=I64 f.1∧I64 f.2
end Go.Proofs.YthckjidmpbiccaaGreatDoor
namespace Go.Proofs.YthckjidmpbiccaaGreatDoor
open Go Go.Abs Go.Own
attribute [local irreducible] WP
theorem Tryz.TI (n:Int) (h:I64 n):Pure Tryz.prog 22 [.int .i64 n] [enU n.natAbs]:=by
 refine Pure.of_wp hT (nt:=_) (c:=_) Tryz.func22 rfl rfl rfl rfl (by kernel_rfl) ?_
 intro w0 ok0 β0
 obtain ⟨h1,h2⟩:=h
 repeat first | refine W1 ?_ | refine W3 ?_ | ((first | refine W2 hT hM [] ?_ | refine W4 ?_ | refine W5 ?_ | refine W6 ?_ | refine W7 ?_ rfl);conv=>whnf)
 (split<;>rename_i hb<;>(try rw [hb])<;>(conv=>whnf))
 ·have hn:n<0:=by simpa using hb
  repeat first | refine W1 ?_ | refine W3 ?_ | ((first | refine W2 hT hM [] ?_ | refine W4 ?_ | refine W5 ?_ | refine W6 ?_ | refine W7 ?_ rfl);conv=>whnf)
  refine ⟨by omega,?_⟩
  conv=>whnf
  refine ⟨by omega,?_⟩
  conv=>whnf
  repeat first | refine W1 ?_ | refine W3 ?_ | ((first | refine W2 hT hM [] ?_ | refine W4 ?_ | refine W5 ?_ | refine W6 ?_ | refine W7 ?_ rfl);conv=>whnf)
  rw [SY (0-(n+1)) (by omega) (by omega),SY _ (by omega) (by omega)]
  unfold enU;congr 2;omega
 ·have hn:¬ n<0:=by simpa using hb
  repeat first | refine W1 ?_ | refine W3 ?_ | ((first | refine W2 hT hM [] ?_ | refine W4 ?_ | refine W5 ?_ | refine W6 ?_ | refine W7 ?_ rfl);conv=>whnf)
  rw [SY n (by omega) (by omega)]
  unfold enU;congr 2;omega
theorem Tryz.aiS (a b:Nat) (ha:a<18446744073709551616) (hb:b<18446744073709551616):Pure Tryz.prog 21 [enU a,enU b] [enU (a.gcd b)]:=by
 refine Pure.of_wp hT (nt:=_) (c:=_) Tryz.func21 rfl rfl rfl rfl (by kernel_rfl) ?_
 intro w0 ok0 β0
 repeat first | refine W1 ?_ | refine W3 ?_ | ((first | refine W2 hT hM [] ?_ | refine W4 ?_ | refine W5 ?_ | refine W6 ?_ | refine W7 ?_ rfl);conv=>whnf)
 refine WP.loop (α:=Nat×Nat) (fun p=>⟨[(0,.d (enU p.1)),(1,.d (enU p.2))],[],[]⟩) (fun p=>p.1.gcd p.2=a.gcd b) (fun p=>p.2) (a,b) [] [] ?_ ?_ ?_
 ·((conv=>whnf);repeat (first | exact True.intro | (refine And.intro (by first | rfl | exact ⟨rfl,rfl,rfl⟩ | exact ⟨rfl,rfl,by simp⟩ | exact ⟨rfl,rfl⟩ | exact ⟨rfl,by simp⟩ | (simp;done) | (simp;omega)) ?_;conv=>whnf)))
 ·rfl
 ·rintro ⟨x,y⟩ hi
  repeat first | refine W1 ?_ | refine W3 ?_ | ((first | refine W2 hT hM [] ?_ | refine W4 ?_ | refine W5 ?_ | refine W6 ?_ | refine W7 ?_ rfl);conv=>whnf)
  (split<;>rename_i hb<;>(try rw [hb])<;>(conv=>whnf))
  ·have hy:y≠0:=by simp at hb;omega
   repeat first | refine W1 ?_ | refine W3 ?_ | ((first | refine W2 hT hM [] ?_ | refine W4 ?_ | refine W5 ?_ | refine W6 ?_ | refine W7 ?_ rfl);conv=>whnf)
   refine ⟨by simpa using hy,?_⟩
   conv=>whnf
   repeat first | refine W1 ?_ | refine W3 ?_ | ((first | refine W2 hT hM [] ?_ | refine W4 ?_ | refine W5 ?_ | refine W6 ?_ | refine W7 ?_ rfl);conv=>whnf)
   refine ⟨(y,x % y),[],[],?_,?_,Nat.mod_lt _ (by omega)⟩
   ·((conv=>whnf);repeat (first | exact True.intro | (refine And.intro (by first | rfl | exact ⟨rfl,rfl,rfl⟩ | exact ⟨rfl,rfl,by simp⟩ | exact ⟨rfl,rfl⟩ | exact ⟨rfl,by simp⟩ | (simp;done) | (simp;omega)) ?_;conv=>whnf)))
   ·show y.gcd (x % y)=_
    rw [← hi,Nat.gcd_comm y,← Nat.gcd_rec,Nat.gcd_comm]
  ·have hy:y=0:=by simp at hb;omega
   subst hy
   repeat first | refine W1 ?_ | refine W3 ?_ | ((first | refine W2 hT hM [] ?_ | refine W4 ?_ | refine W5 ?_ | refine W6 ?_ | refine W7 ?_ rfl);conv=>whnf)
   rw [← hi];show _=[enU (x.gcd 0)];rw [Nat.gcd_zero_right]
theorem Tryz.ND (f:Fr) (h1:I64 f.1) (h2:I64 f.2):Pure Tryz.prog 5 [enQ f] [.bool (okF f)]:=by
 have b1:f.1.natAbs<18446744073709551616:=by have:=h1.1;have:=h1.2;omega
 have b2:f.2.natAbs<18446744073709551616:=by have:=h2.1;have:=h2.2;omega
 refine Pure.of_wp hT (nt:=_) (c:=_) Tryz.func5 rfl rfl rfl rfl (by kernel_rfl) ?_
 intro w0 ok0 β0
 repeat first | refine W1 ?_ | refine W3 ?_ | ((first | refine W2 hT hM [] ?_ | refine W4 ?_ | refine W5 ?_ | refine W6 ?_ | refine W7 ?_ rfl);conv=>whnf)
 (split<;>rename_i hb<;>(try rw [hb])<;>(conv=>whnf))
 rotate_left
 ·have hn:¬ 1≤f.2:=by simpa using hb
  repeat first | refine W1 ?_ | refine W3 ?_ | ((first | refine W2 hT hM [] ?_ | refine W4 ?_ | refine W5 ?_ | refine W6 ?_ | refine W7 ?_ rfl);conv=>whnf)
  have:okF f=false:=Bool.eq_false_iff.2 fun h=>hn (iI.1 h).1
  rw [this]
 have k1:1≤f.2:=by simpa using hb
 clear hb
 (split<;>rename_i hb<;>(try rw [hb])<;>(conv=>whnf))
 rotate_left
 ·have hn:¬ f.2≤mst:=by simpa [mst] using hb
  repeat first | refine W1 ?_ | refine W3 ?_ | ((first | refine W2 hT hM [] ?_ | refine W4 ?_ | refine W5 ?_ | refine W6 ?_ | refine W7 ?_ rfl);conv=>whnf)
  have:okF f=false:=Bool.eq_false_iff.2 fun h=>hn (iI.1 h).2.1
  rw [this]
 have k2:f.2≤mst:=by simpa [mst] using hb
 clear hb
 (split<;>rename_i hb<;>(try rw [hb])<;>(conv=>whnf))
 rotate_left
 ·have hn:¬ -(mst:Int)≤f.1:=by simpa [mst] using hb
  repeat first | refine W1 ?_ | refine W3 ?_ | ((first | refine W2 hT hM [] ?_ | refine W4 ?_ | refine W5 ?_ | refine W6 ?_ | refine W7 ?_ rfl);conv=>whnf)
  have:okF f=false:=Bool.eq_false_iff.2 fun h=>hn (iI.1 h).2.2.1
  rw [this]
 have k3:-(mst:Int)≤f.1:=by simpa [mst] using hb
 clear hb
 (split<;>rename_i hb<;>(try rw [hb])<;>(conv=>whnf))
 rotate_left
 ·have hn:¬ f.1≤mst:=by simpa [mst] using hb
  repeat first | refine W1 ?_ | refine W3 ?_ | ((first | refine W2 hT hM [] ?_ | refine W4 ?_ | refine W5 ?_ | refine W6 ?_ | refine W7 ?_ rfl);conv=>whnf)
  have:okF f=false:=Bool.eq_false_iff.2 fun h=>hn (iI.1 h).2.2.2.1
  rw [this]
 have k4:f.1≤mst:=by simpa [mst] using hb
 clear hb
 refine .inl ⟨_,Tryz.TI f.1 h1,.inl rfl,?_⟩
 conv=>whnf
 refine .inl ⟨_,Tryz.TI f.2 h2,.inl rfl,?_⟩
 conv=>whnf
 refine .inl ⟨_,Tryz.aiS _ _ b1 b2,.inl rfl,?_⟩
 conv=>whnf
 repeat first | refine W1 ?_ | refine W3 ?_ | ((first | refine W2 hT hM [] ?_ | refine W4 ?_ | refine W5 ?_ | refine W6 ?_ | refine W7 ?_ rfl);conv=>whnf)
 congr 2
 rw [Bool.eq_iff_iff,iI]
 constructor
 ·intro h
  have h:((f.1.natAbs.gcd f.2.natAbs:Nat):Int)=1:=by simpa using h
  exact ⟨k1,k2,k3,k4,by omega⟩
 ·intro h
  have h5:((f.1.natAbs.gcd f.2.natAbs:Nat):Int)=1:=by have:=h.2.2.2.2;omega
  simpa using h5
theorem Tryz.SH (a b:Fr) (ka:okF a=true) (kb:okF b=true):Pure Tryz.prog 26 [enQ a,enQ b] [.int .i64 (qY a b)]:=by
 refine Pure.of_wp hT (nt:=_) (c:=_) Tryz.func26 rfl rfl rfl rfl (by kernel_rfl) ?_
 intro w0 ok0 β0
 obtain ⟨a1,a2,a3,a4,_⟩:=iI.1 ka
 obtain ⟨b1,b2,b3,b4,_⟩:=iI.1 kb
 have m1:=Gg a3 a4 b1 b2
 have m2:=Gg b3 b4 a1 a2
 repeat first | refine W1 ?_ | refine W3 ?_ | ((first | refine W2 hT hM [] ?_ | refine W4 ?_ | refine W5 ?_ | refine W6 ?_ | refine W7 ?_ rfl);conv=>whnf)
 refine ⟨by omega,?_⟩
 conv=>whnf
 refine ⟨by omega,?_⟩
 conv=>whnf
 repeat first | refine W1 ?_ | refine W3 ?_ | ((first | refine W2 hT hM [] ?_ | refine W4 ?_ | refine W5 ?_ | refine W6 ?_ | refine W7 ?_ rfl);conv=>whnf)
 (split<;>rename_i hb<;>(try rw [hb])<;>(conv=>whnf))
 ·have h1:a.1*b.2<b.1*a.2:=by simpa using hb
  repeat first | refine W1 ?_ | refine W3 ?_ | ((first | refine W2 hT hM [] ?_ | refine W4 ?_ | refine W5 ?_ | refine W6 ?_ | refine W7 ?_ rfl);conv=>whnf)
  unfold qY;rw [if_pos h1]
 ·have h1:¬ a.1*b.2<b.1*a.2:=by simpa using hb
  clear hb
  repeat first | refine W1 ?_ | refine W3 ?_ | ((first | refine W2 hT hM [] ?_ | refine W4 ?_ | refine W5 ?_ | refine W6 ?_ | refine W7 ?_ rfl);conv=>whnf)
  (split<;>rename_i hb<;>(try rw [hb])<;>(conv=>whnf))
  ·have h2:b.1*a.2<a.1*b.2:=by simpa using hb
   repeat first | refine W1 ?_ | refine W3 ?_ | ((first | refine W2 hT hM [] ?_ | refine W4 ?_ | refine W5 ?_ | refine W6 ?_ | refine W7 ?_ rfl);conv=>whnf)
   unfold qY;rw [if_neg h1,if_pos h2]
  ·have h2:¬ b.1*a.2<a.1*b.2:=by simpa using hb
   repeat first | refine W1 ?_ | refine W3 ?_ | ((first | refine W2 hT hM [] ?_ | refine W4 ?_ | refine W5 ?_ | refine W6 ?_ | refine W7 ?_ rfl);conv=>whnf)
   unfold qY;rw [if_neg h1,if_neg h2]
end Go.Proofs.YthckjidmpbiccaaGreatDoor
namespace Go.Proofs.YthckjidmpbiccaaGreatDoor
open Go Go.Abs Go.Own
attribute [local irreducible] WP
abbrev Ch:=Int×Fr×Fr
def mX (c:Ch):D := .agg [.int .i64 c.1,.int .i64 c.2.1.1,.int .i64 c.2.1.2,.int .i64 c.2.2.1,.int .i64 c.2.2.2]
def Qj (c:Ch):List D:=[.int .i64 c.1,.int .i64 c.2.1.1,.int .i64 c.2.1.2,.int .i64 c.2.2.1,.int .i64 c.2.2.2]
def better (c x:Ch):Bool:=decide (0<qY x.2.1 c.2.2)
def okC (c:Ch):Prop:=okF c.2.1=true∧okF c.2.2=true
def lT (l:List Ch):List Int:=(l.filter fun c=>l.any (better c)).map (·.1)
theorem Tryz.al5 (x c:Ch) (hx:okC x) (hc:okC c):Pure Tryz.prog 24 [mX x,.ref (Qj c) 0] [.bool (better c x)]:=by
 refine Pure.of_wp hT (nt:=_) (c:=_) Tryz.func24 rfl rfl rfl rfl (by kernel_rfl) ?_
 intro w0 ok0 β0
 repeat first | refine W1 ?_ | refine W3 ?_ | ((first | refine W2 hT hM [] ?_ | refine W4 ?_ | refine W5 ?_ | refine W6 ?_ | refine W7 ?_ rfl);conv=>whnf)
 refine .inl ⟨_,Tryz.compare x.2.1 c.2.2 hx.1 hc.2,.inl rfl,?_⟩
 conv=>whnf
 repeat first | refine W1 ?_ | refine W3 ?_ | ((first | refine W2 hT hM [] ?_ | refine W4 ?_ | refine W5 ?_ | refine W6 ?_ | refine W7 ?_ rfl);conv=>whnf)
 rfl
def Gn (i:Int) (p:Ch→Bool):List Ch→Int
 | []=>-1
 | y::l=>match p y with | true=>i | false=>Gn (i+1) p l
theorem RI (i:Int) (p:Ch→Bool) (y:Ch) (l:List Ch):Gn i p (y::l)=match p y with | true=>i | false=>Gn (i+1) p l:=rfl
theorem JA:∀ {l:List Ch} {p:Ch→Bool} {i:Int},0≤i→(0≤Gn i p l↔l.any p=true)
 | [],p,i,h=>by simp [Gn]
 | y::l,p,i,h=>by
   unfold Gn
   cases e:p y
   ·rw [List.any_cons,e,Bool.false_or];exact JA (by omega)
   ·simp [e,h]
theorem Tryz.agk (l:List Ch) (f:Nat) (r:D) (p:Ch→Bool) (hl:l.length≤1000000) (hf:∀ x∈l,Pure Tryz.prog f [mX x,r] [.bool (p x)]) :
  Pure Tryz.prog 54 [.list (l.map mX),.fn f [r]] [.int .i64 (Gn 0 p l)]:=by
 refine Pure.of_wp hT (nt:=_) (c:=_) Tryz.func54 rfl rfl rfl rfl (by kernel_rfl) ?_
 intro w0 ok0 β0
 repeat first | refine W1 ?_ | refine W3 ?_ | ((first | refine W2 hT hM [] ?_ | refine W4 ?_ | refine W5 ?_ | refine W6 ?_ | refine W7 ?_ rfl);conv=>whnf)
 refine WP.loop (α:=Nat) (fun i=>⟨[(0,.d (.list (l.map mX))),(1,.d (.fn f [r])),(7,.d (.int .i64 l.length)),(8,.d (.int .i64 i))],[],[]⟩)
  (fun i=>i≤l.length∧Gn 0 p l=Gn i p (l.drop i)) (fun i=>l.length-i) 0 [] [] ?_ ?_ ?_
 ·((conv=>whnf);repeat (first | exact True.intro | (refine And.intro (by first | rfl | exact ⟨rfl,rfl,rfl⟩ | exact ⟨rfl,rfl,by simp⟩ | exact ⟨rfl,rfl⟩ | exact ⟨rfl,by simp⟩ | (simp;done) | (simp;omega)) ?_;conv=>whnf)))
 ·simp
 ·rintro i ⟨hi,hx⟩
  repeat first | refine W1 ?_ | refine W3 ?_ | ((first | refine W2 hT hM [] ?_ | refine W4 ?_ | refine W5 ?_ | refine W6 ?_ | refine W7 ?_ rfl);conv=>whnf)
  (split<;>rename_i hb<;>(try rw [hb])<;>(conv=>whnf))
  ·have hlt:i<l.length:=by simpa using hb
   clear hb
   rw [List.drop_eq_getElem_cons hlt] at hx
   repeat first | refine W1 ?_ | refine W3 ?_ | ((first | refine W2 hT hM [] ?_ | refine W4 ?_ | refine W5 ?_ | refine W6 ?_ | refine W7 ?_ rfl);conv=>whnf)
   refine ⟨by omega,_,jd hlt,rfl,?_⟩
   conv=>whnf
   refine .inl ⟨_,hf l[i] (List.getElem_mem hlt),.inl rfl,?_⟩
   conv=>whnf
   rw [RI] at hx
   cases hc:p l[i] with
   | true=>
     rw [hc] at hx
     conv=>whnf
     repeat first | refine W1 ?_ | refine W3 ?_ | ((first | refine W2 hT hM [] ?_ | refine W4 ?_ | refine W5 ?_ | refine W6 ?_ | refine W7 ?_ rfl);conv=>whnf)
     rw [hx]
   | false=>
     rw [hc] at hx
     conv=>whnf
     repeat first | refine W1 ?_ | refine W3 ?_ | ((first | refine W2 hT hM [] ?_ | refine W4 ?_ | refine W5 ?_ | refine W6 ?_ | refine W7 ?_ rfl);conv=>whnf)
     refine ⟨by omega,?_⟩
     conv=>whnf
     refine ⟨i+1,[],[],?_,⟨by omega,hx⟩,by omega⟩
     ((conv=>whnf);repeat (first | exact True.intro | (refine And.intro (by first | rfl | exact ⟨rfl,rfl,rfl⟩ | exact ⟨rfl,rfl,by simp⟩ | exact ⟨rfl,rfl⟩ | exact ⟨rfl,by simp⟩ | (simp;done) | (simp;omega)) ?_;conv=>whnf)))
  ·have hii:i=l.length:=by simp at hb;omega
   subst hii
   rw [List.drop_length] at hx
   repeat first | refine W1 ?_ | refine W3 ?_ | ((first | refine W2 hT hM [] ?_ | refine W4 ?_ | refine W5 ?_ | refine W6 ?_ | refine W7 ?_ rfl);conv=>whnf)
   rw [hx];rfl
theorem Tryz.SG (l:List Ch) (f:Nat) (r:D) (p:Ch→Bool) (hl:l.length≤1000000) (hf:∀ x∈l,Pure Tryz.prog f [mX x,r] [.bool (p x)]) :
  Pure Tryz.prog 23 [.list (l.map mX),.fn f [r]] [.bool (l.any p)]:=by
 refine Pure.of_wp hT (nt:=_) (c:=_) Tryz.func23 rfl rfl rfl rfl (by kernel_rfl) ?_
 intro w0 ok0 β0
 repeat first | refine W1 ?_ | refine W3 ?_ | ((first | refine W2 hT hM [] ?_ | refine W4 ?_ | refine W5 ?_ | refine W6 ?_ | refine W7 ?_ rfl);conv=>whnf)
 refine .inl ⟨_,Tryz.agk l f r p hl hf,.inl rfl,?_⟩
 conv=>whnf
 repeat first | refine W1 ?_ | refine W3 ?_ | ((first | refine W2 hT hM [] ?_ | refine W4 ?_ | refine W5 ?_ | refine W6 ?_ | refine W7 ?_ rfl);conv=>whnf)
 congr 2
 rw [Bool.eq_iff_iff,← JA (i:=0) (by decide)]
 simp
def af0 (id sz:Nat) (s:List D):V:=match s with | [] => .aj | _::_ => .sl id sz 0 s.length
def af4 (id sz:Nat) (s:List D):List (Key×Option Res):=match s with | []=>[] | _::_=>[((id,0),some (.arr sz s))]
def af2 (id:Nat) (s:List D):List Nat:=match s with | []=>[] | _::_=>[id]
def ZK (id:Nat) (s:List D):List (Nat×Option Nat):=match s with | []=>[] | _::_=>[(id,some id)]
theorem J6 {l:List Ch} {q:Ch→Bool} {i:Nat} (h:i<l.length):((l.take (i+1)).filter q).map (fun c=>enI c.1)=((l.take i).filter q).map (fun c=>enI c.1)++(if q l[i]=true then [enI l[i].1] else []):=by
 rw [List.take_succ_eq_append_getElem h,List.filter_append,List.map_append]
 congr 1
 cases hc:q l[i]
 ·rw [List.filter_cons_of_neg (by rw [hc];simp)];rfl
 ·rw [List.filter_cons_of_pos hc];rfl
theorem Tryz.SB (l:List Ch) (hl:l.length≤20) (hok:∀ c∈l,okC c):Pure Tryz.prog 7 [.list (l.map mX)] [.list ((lT l).map enI)]:=by
 have h8:(T 3).bytes=8:=rfl
 refine Pure.of_wp hT (nt:=_) (c:=_) Tryz.func7 rfl rfl rfl rfl (by kernel_rfl) ?_
 intro w0 ok0 β0
 repeat first | refine W1 ?_ | refine W3 ?_ | ((first | refine W2 hT hM [] ?_ | refine W4 ?_ | refine W5 ?_ | refine W6 ?_ | refine W7 ?_ rfl);conv=>whnf)
 refine WP.loop (α:=Nat×List D) (fun x=>⟨[(0,.d (.list (l.map mX))),(3,af0 3 1 x.2),(6,.d (.list (l.map mX))),(7,.d (.int .i64 l.length)),(8,.d (.int .i64 x.1))],af4 3 1 x.2,af2 3 x.2⟩)
  (fun x=>x.1≤l.length∧x.2=((l.take x.1).filter fun c=>l.any (better c)).map fun c=>enI c.1) (fun x=>l.length-x.1) (0,[]) [] [] ?_ ?_ ?_
 ·((conv=>whnf);repeat (first | exact True.intro | (refine And.intro (by first | rfl | exact ⟨rfl,rfl,rfl⟩ | exact ⟨rfl,rfl,by simp⟩ | exact ⟨rfl,rfl⟩ | exact ⟨rfl,by simp⟩ | (simp;done) | (simp;omega)) ?_;conv=>whnf)))
 ·simp
 ·rintro ⟨i,s⟩ ⟨hi,hs⟩
  simp only at hi hs
  repeat first | refine W1 ?_ | refine W3 ?_ | ((first | refine W2 hT hM [] ?_ | refine W4 ?_ | refine W5 ?_ | refine W6 ?_ | refine W7 ?_ rfl);conv=>whnf)
  (split<;>rename_i hb<;>(try rw [hb])<;>(conv=>whnf))
  ·have hlt:i<l.length:=by simpa using hb
   clear hb
   have hnx:=J6 (q:=fun c=>l.any (better c)) hlt
   rw [← hs] at hnx
   have hsl:s.length≤20:=by rw [hs,List.length_map];exact Nat.le_trans (List.length_filter_le _ _) (by simp;omega)
   have hcon:=Tryz.SG l 24 (.ref (Qj l[i]) 0) (better l[i]) (by omega) fun x hx=>Tryz.al5 x l[i] (hok x hx) (hok _ (List.getElem_mem hlt))
   cases s with
   | nil=>
     repeat first | refine W1 ?_ | refine W3 ?_ | ((first | refine W2 hT hM [] ?_ | refine W4 ?_ | refine W5 ?_ | refine W6 ?_ | refine W7 ?_ rfl);conv=>whnf)
     refine ⟨by omega,_,jd hlt,rfl,?_⟩
     conv=>whnf
     repeat first | refine W1 ?_ | refine W3 ?_ | ((first | refine W2 hT hM [] ?_ | refine W4 ?_ | refine W5 ?_ | refine W6 ?_ | refine W7 ?_ rfl);conv=>whnf)
     refine .inl ⟨_,hcon,.inr rfl,?_⟩
     conv=>whnf
     cases hc:l.any (better l[i]) with
     | true=>
       rw [hc,if_pos rfl] at hnx
       conv=>whnf
       repeat first | refine W1 ?_ | refine W3 ?_ | ((first | refine W2 hT hM [] ?_ | refine W4 ?_ | refine W5 ?_ | refine W6 ?_ | refine W7 ?_ rfl);conv=>whnf)
       refine ⟨rfl,?_⟩
       conv=>whnf
       refine ⟨_,rfl,Nat.le_refl _,Nat.le_of_ble_eq_true rfl,?_⟩
       conv=>whnf
       repeat first | refine W1 ?_ | refine W3 ?_ | ((first | refine W2 hT hM [] ?_ | refine W4 ?_ | refine W5 ?_ | refine W6 ?_ | refine W7 ?_ rfl);conv=>whnf)
       refine ⟨by simp only;omega,?_⟩
       conv=>whnf
       refine ⟨(i+1,[enI l[i].1]),[(3,some 19)],[],?_,⟨by simp only;omega,hnx.symm⟩,by simp only;omega⟩
       ((conv=>whnf);repeat (first | exact True.intro | (refine And.intro (by first | rfl | exact ⟨rfl,rfl,rfl⟩ | exact ⟨rfl,rfl,by simp⟩ | exact ⟨rfl,rfl⟩ | exact ⟨rfl,by simp⟩ | (simp;done) | (simp;omega)) ?_;conv=>whnf)))
     | false=>
       rw [hc,if_neg (by simp),List.append_nil] at hnx
       conv=>whnf
       repeat first | refine W1 ?_ | refine W3 ?_ | ((first | refine W2 hT hM [] ?_ | refine W4 ?_ | refine W5 ?_ | refine W6 ?_ | refine W7 ?_ rfl);conv=>whnf)
       refine ⟨by simp only;omega,?_⟩
       conv=>whnf
       refine ⟨(i+1,[]),[],[],?_,⟨by simp only;omega,hnx.symm⟩,by simp only;omega⟩
       ((conv=>whnf);repeat (first | exact True.intro | (refine And.intro (by first | rfl | exact ⟨rfl,rfl,rfl⟩ | exact ⟨rfl,rfl,by simp⟩ | exact ⟨rfl,rfl⟩ | exact ⟨rfl,by simp⟩ | (simp;done) | (simp;omega)) ?_;conv=>whnf)))
   | cons c u=>
     repeat first | refine W1 ?_ | refine W3 ?_ | ((first | refine W2 hT hM [] ?_ | refine W4 ?_ | refine W5 ?_ | refine W6 ?_ | refine W7 ?_ rfl);conv=>whnf)
     refine ⟨by omega,_,jd hlt,rfl,?_⟩
     conv=>whnf
     repeat first | refine W1 ?_ | refine W3 ?_ | ((first | refine W2 hT hM [] ?_ | refine W4 ?_ | refine W5 ?_ | refine W6 ?_ | refine W7 ?_ rfl);conv=>whnf)
     refine .inl ⟨_,hcon,.inr rfl,?_⟩
     conv=>whnf
     cases hc:l.any (better l[i]) with
     | true=>
       rw [hc,if_pos rfl] at hnx
       conv=>whnf
       repeat first | refine W1 ?_ | refine W3 ?_ | ((first | refine W2 hT hM [] ?_ | refine W4 ?_ | refine W5 ?_ | refine W6 ?_ | refine W7 ?_ rfl);conv=>whnf)
       refine ⟨rfl,?_⟩
       conv=>whnf
       refine ⟨c::u,by rw [List.drop_zero,List.take_of_length_le (Nat.le_refl _)],by simp,?_⟩
       conv=>whnf
       refine ⟨_,rfl,Nat.le_refl _,?_,?_⟩
       ·rw [h8]
        have h1:∀ x:D,(List.take [x].length (List.drop 0 [x])).length=1:=fun _=>rfl
        simp only [h1];omega
       conv=>whnf
       repeat first | refine W1 ?_ | refine W3 ?_ | ((first | refine W2 hT hM [] ?_ | refine W4 ?_ | refine W5 ?_ | refine W6 ?_ | refine W7 ?_ rfl);conv=>whnf)
       refine ⟨by simp only;omega,?_⟩
       conv=>whnf
       refine ⟨(i+1,(c::u)++[enI l[i].1]),[(3,some 19)],[],?_,⟨by simp only;omega,hnx.symm⟩,by simp only;omega⟩
       ((conv=>whnf);repeat (first | exact True.intro | (refine And.intro (by first | rfl | exact ⟨rfl,rfl,rfl⟩ | exact ⟨rfl,rfl,by simp⟩ | exact ⟨rfl,rfl⟩ | exact ⟨rfl,by simp⟩ | (simp;done) | (simp;omega)) ?_;conv=>whnf)))
     | false=>
       rw [hc,if_neg (by simp),List.append_nil] at hnx
       conv=>whnf
       repeat first | refine W1 ?_ | refine W3 ?_ | ((first | refine W2 hT hM [] ?_ | refine W4 ?_ | refine W5 ?_ | refine W6 ?_ | refine W7 ?_ rfl);conv=>whnf)
       refine ⟨by simp only;omega,?_⟩
       conv=>whnf
       refine ⟨(i+1,c::u),[(3,some 3)],[],?_,⟨by simp only;omega,hnx.symm⟩,by simp only;omega⟩
       ((conv=>whnf);repeat (first | exact True.intro | (refine And.intro (by first | rfl | exact ⟨rfl,rfl,rfl⟩ | exact ⟨rfl,rfl,by simp⟩ | exact ⟨rfl,rfl⟩ | exact ⟨rfl,by simp⟩ | (simp;done) | (simp;omega)) ?_;conv=>whnf)))
  ·have hii:i=l.length:=by simp at hb;omega
   subst hii
   clear hb
   rw [List.take_length] at hs
   have hfin:((lT l).map enI)=s:=by rw [hs,lT,List.map_map];rfl
   rw [hfin]
   cases s with
   | nil=>repeat first | refine W1 ?_ | refine W3 ?_ | ((first | refine W2 hT hM [] ?_ | refine W4 ?_ | refine W5 ?_ | refine W6 ?_ | refine W7 ?_ rfl);conv=>whnf)
   | cons c u=>
     repeat first | refine W1 ?_ | refine W3 ?_ | ((first | refine W2 hT hM [] ?_ | refine W4 ?_ | refine W5 ?_ | refine W6 ?_ | refine W7 ?_ rfl);conv=>whnf)
     refine ⟨c::u,by rw [List.drop_zero,List.take_of_length_le (Nat.le_refl _)],by simp,?_⟩
     conv=>whnf
end Go.Proofs.YthckjidmpbiccaaGreatDoor
namespace Go.Proofs.YthckjidmpbiccaaGreatDoor
open Go Go.Abs Go.Own
attribute [local irreducible] WP
theorem XQ {l:List Ch} {q:Ch→Bool} {k:Nat} (h:k<l.length):(l.take (k+1)).any q=((l.take k).any q||q l[k]):=by
 rw [List.take_succ_eq_append_getElem h,List.any_append];simp
theorem Tryz.J5 (l:List Ch) (hl:l.length≤20) (hok:∀ c∈l,okC c):Pure Tryz.prog 8 [.list (l.map mX)] [.list ((lT l).map enI)]:=by
 have h8:(T 3).bytes=8:=rfl
 refine Pure.of_wp hT (nt:=_) (c:=_) Tryz.func8 rfl rfl rfl rfl (by kernel_rfl) ?_
 intro w0 ok0 β0
 repeat first | refine W1 ?_ | refine W3 ?_ | ((first | refine W2 hT hM [] ?_ | refine W4 ?_ | refine W5 ?_ | refine W6 ?_ | refine W7 ?_ rfl);conv=>whnf)
 refine WP.loop (α:=Nat×List D) (fun x=>⟨[(0,.d (.list (l.map mX))),(3,af0 3 1 x.2),(4,.d (.int .i64 x.1))],af4 3 1 x.2,af2 3 x.2⟩)
  (fun x=>x.1≤l.length∧x.2=((l.take x.1).filter fun c=>l.any (better c)).map fun c=>enI c.1) (fun x=>l.length-x.1) (0,[]) [] [] ?_ ?_ ?_
 ·((conv=>whnf);repeat (first | exact True.intro | (refine And.intro (by first | rfl | exact ⟨rfl,rfl,rfl⟩ | exact ⟨rfl,rfl,by simp⟩ | exact ⟨rfl,rfl⟩ | exact ⟨rfl,by simp⟩ | (simp;done) | (simp;omega)) ?_;conv=>whnf)))
 ·simp
 ·rintro ⟨i,s⟩ ⟨hi,hs⟩
  simp only at hi hs
  repeat first | refine W1 ?_ | refine W3 ?_ | ((first | refine W2 hT hM [] ?_ | refine W4 ?_ | refine W5 ?_ | refine W6 ?_ | refine W7 ?_ rfl);conv=>whnf)
  (split<;>rename_i hb<;>(try rw [hb])<;>(conv=>whnf))
  ·have hlt:i<l.length:=by simpa using hb
   clear hb
   have hnx:=J6 (q:=fun c=>l.any (better c)) hlt
   rw [← hs] at hnx
   have hsl:s.length≤20:=by rw [hs,List.length_map];exact Nat.le_trans (List.length_filter_le _ _) (by simp;omega)
   repeat first | refine W1 ?_ | refine W3 ?_ | ((first | refine W2 hT hM [] ?_ | refine W4 ?_ | refine W5 ?_ | refine W6 ?_ | refine W7 ?_ rfl);conv=>whnf)
   refine WP.loop (α:=Nat) (fun k=>⟨[(0,.d (.list (l.map mX))),(3,af0 3 1 s),(4,.d (.int .i64 i)),(5,.d (.bool ((l.take k).any (better l[i])))),(6,.d (.int .i64 k))],af4 3 1 s,af2 3 s⟩)
    (fun k=>k≤l.length) (fun k=>l.length-k) 0 (ZK 3 s) [] ?_ (Nat.zero_le _) ?_
   ·cases s<;>((conv=>whnf);repeat (first | exact True.intro | (refine And.intro (by first | rfl | exact ⟨rfl,rfl,rfl⟩ | exact ⟨rfl,rfl,by simp⟩ | exact ⟨rfl,rfl⟩ | exact ⟨rfl,by simp⟩ | (simp;done) | (simp;omega)) ?_;conv=>whnf)))
   ·intro k hk
    repeat first | refine W1 ?_ | refine W3 ?_ | ((first | refine W2 hT hM [] ?_ | refine W4 ?_ | refine W5 ?_ | refine W6 ?_ | refine W7 ?_ rfl);conv=>whnf)
    (split<;>rename_i hb<;>(try rw [hb])<;>(conv=>whnf))
    ·have hkl:k<l.length:=by simpa using hb
     clear hb
     have hn:=XQ (q:=better l[i]) hkl
     have hcmp:=Tryz.SH l[k].2.1 l[i].2.2 (hok _ (List.getElem_mem hkl)).1 (hok _ (List.getElem_mem hlt)).2
     repeat first | refine W1 ?_ | refine W3 ?_ | ((first | refine W2 hT hM [] ?_ | refine W4 ?_ | refine W5 ?_ | refine W6 ?_ | refine W7 ?_ rfl);conv=>whnf)
     cases hw:(l.take k).any (better l[i]) with
     | true=>
       rw [hw,Bool.true_or] at hn
       conv=>whnf
       repeat first | refine W1 ?_ | refine W3 ?_ | ((first | refine W2 hT hM [] ?_ | refine W4 ?_ | refine W5 ?_ | refine W6 ?_ | refine W7 ?_ rfl);conv=>whnf)
       refine ⟨by omega,?_⟩
       conv=>whnf
       refine ⟨k+1,ZK 3 s,[],?_,by omega,by omega⟩
       rw [hn]
       cases s<;>((conv=>whnf);repeat (first | exact True.intro | (refine And.intro (by first | rfl | exact ⟨rfl,rfl,rfl⟩ | exact ⟨rfl,rfl,by simp⟩ | exact ⟨rfl,rfl⟩ | exact ⟨rfl,by simp⟩ | (simp;done) | (simp;omega)) ?_;conv=>whnf)))
     | false=>
       rw [hw,Bool.false_or] at hn
       conv=>whnf
       refine ⟨by omega,_,jd hkl,rfl,?_⟩
       conv=>whnf
       refine ⟨by omega,_,jd hlt,rfl,?_⟩
       conv=>whnf
       refine .inl ⟨_,hcmp,.inl rfl,?_⟩
       conv=>whnf
       repeat first | refine W1 ?_ | refine W3 ?_ | ((first | refine W2 hT hM [] ?_ | refine W4 ?_ | refine W5 ?_ | refine W6 ?_ | refine W7 ?_ rfl);conv=>whnf)
       refine ⟨by omega,?_⟩
       conv=>whnf
       refine ⟨k+1,ZK 3 s,[],?_,by omega,by omega⟩
       rw [hn]
       cases s<;>((conv=>whnf);repeat (first | exact True.intro | (refine And.intro (by first | rfl | exact ⟨rfl,rfl,rfl⟩ | exact ⟨rfl,rfl,by simp⟩ | exact ⟨rfl,rfl⟩ | exact ⟨rfl,by simp⟩ | (simp;done) | (simp;omega)) ?_;conv=>whnf)))
    ·have hkk:k=l.length:=by simp at hb;omega
     subst hkk
     clear hb
     rw [List.take_length]
     repeat first | refine W1 ?_ | refine W3 ?_ | ((first | refine W2 hT hM [] ?_ | refine W4 ?_ | refine W5 ?_ | refine W6 ?_ | refine W7 ?_ rfl);conv=>whnf)
     cases hc:l.any (better l[i]) with
     | true=>
       rw [hc,if_pos rfl] at hnx
       repeat first | refine W1 ?_ | refine W3 ?_ | ((first | refine W2 hT hM [] ?_ | refine W4 ?_ | refine W5 ?_ | refine W6 ?_ | refine W7 ?_ rfl);conv=>whnf)
       refine ⟨by omega,_,jd hlt,rfl,?_⟩
       conv=>whnf
       cases s with
       | nil=>
         conv=>whnf
         refine ⟨rfl,?_⟩
         conv=>whnf
         refine ⟨_,rfl,Nat.le_refl _,Nat.le_of_ble_eq_true rfl,?_⟩
         conv=>whnf
         repeat first | refine W1 ?_ | refine W3 ?_ | ((first | refine W2 hT hM [] ?_ | refine W4 ?_ | refine W5 ?_ | refine W6 ?_ | refine W7 ?_ rfl);conv=>whnf)
         refine ⟨by omega,?_⟩
         conv=>whnf
         refine ⟨(i+1,[enI l[i].1]),[(3,some 44)],[],?_,⟨by simp only;omega,hnx.symm⟩,by simp only;omega⟩
         ((conv=>whnf);repeat (first | exact True.intro | (refine And.intro (by first | rfl | exact ⟨rfl,rfl,rfl⟩ | exact ⟨rfl,rfl,by simp⟩ | exact ⟨rfl,rfl⟩ | exact ⟨rfl,by simp⟩ | (simp;done) | (simp;omega)) ?_;conv=>whnf)))
       | cons c u=>
         conv=>whnf
         refine ⟨rfl,?_⟩
         conv=>whnf
         refine ⟨c::u,by rw [List.drop_zero,List.take_of_length_le (Nat.le_refl _)],by simp,?_⟩
         conv=>whnf
         refine ⟨_,rfl,Nat.le_refl _,?_,?_⟩
         ·rw [h8]
          have h1:∀ x:D,(List.take [x].length (List.drop 0 [x])).length=1:=fun _=>rfl
          simp only [h1];omega
         conv=>whnf
         repeat first | refine W1 ?_ | refine W3 ?_ | ((first | refine W2 hT hM [] ?_ | refine W4 ?_ | refine W5 ?_ | refine W6 ?_ | refine W7 ?_ rfl);conv=>whnf)
         refine ⟨by omega,?_⟩
         conv=>whnf
         refine ⟨(i+1,(c::u)++[enI l[i].1]),[(3,some 44)],[],?_,⟨by simp only;omega,hnx.symm⟩,by simp only;omega⟩
         ((conv=>whnf);repeat (first | exact True.intro | (refine And.intro (by first | rfl | exact ⟨rfl,rfl,rfl⟩ | exact ⟨rfl,rfl,by simp⟩ | exact ⟨rfl,rfl⟩ | exact ⟨rfl,by simp⟩ | (simp;done) | (simp;omega)) ?_;conv=>whnf)))
     | false=>
       rw [hc,if_neg (by simp),List.append_nil] at hnx
       repeat first | refine W1 ?_ | refine W3 ?_ | ((first | refine W2 hT hM [] ?_ | refine W4 ?_ | refine W5 ?_ | refine W6 ?_ | refine W7 ?_ rfl);conv=>whnf)
       refine ⟨by omega,?_⟩
       conv=>whnf
       refine ⟨(i+1,s),ZK 3 s,[],?_,⟨by simp only;omega,hnx.symm⟩,by simp only;omega⟩
       cases s<;>((conv=>whnf);repeat (first | exact True.intro | (refine And.intro (by first | rfl | exact ⟨rfl,rfl,rfl⟩ | exact ⟨rfl,rfl,by simp⟩ | exact ⟨rfl,rfl⟩ | exact ⟨rfl,by simp⟩ | (simp;done) | (simp;omega)) ?_;conv=>whnf)))
  ·have hii:i=l.length:=by simp at hb;omega
   subst hii
   clear hb
   rw [List.take_length] at hs
   have hfin:((lT l).map enI)=s:=by rw [hs,lT,List.map_map];rfl
   rw [hfin]
   cases s with
   | nil=>repeat first | refine W1 ?_ | refine W3 ?_ | ((first | refine W2 hT hM [] ?_ | refine W4 ?_ | refine W5 ?_ | refine W6 ?_ | refine W7 ?_ rfl);conv=>whnf)
   | cons c u=>
     repeat first | refine W1 ?_ | refine W3 ?_ | ((first | refine W2 hT hM [] ?_ | refine W4 ?_ | refine W5 ?_ | refine W6 ?_ | refine W7 ?_ rfl);conv=>whnf)
     refine ⟨c::u,by rw [List.drop_zero,List.take_of_length_le (Nat.le_refl _)],by simp,?_⟩
     conv=>whnf
theorem Tryz.ag2 (alive:Pure Tryz.prog 4 [] [.bool true]) (l:List Ch) (hi:∀ c∈l,okI c.2.1∧okI c.2.2) :
  Pure Tryz.prog 3 [.list (l.map mX)] [.bool true]:=by
 refine Pure.of_wp hT (nt:=_) (c:=_) Tryz.func3 rfl rfl rfl rfl (by kernel_rfl) ?_
 intro w0 ok0 β0
 repeat first | refine W1 ?_ | refine W3 ?_ | ((first | refine W2 hT hM [] ?_ | refine W4 ?_ | refine W5 ?_ | refine W6 ?_ | refine W7 ?_ rfl);conv=>whnf)
 (split<;>rename_i hb<;>(try rw [hb])<;>(conv=>whnf))
 ·repeat first | refine W1 ?_ | refine W3 ?_ | ((first | refine W2 hT hM [] ?_ | refine W4 ?_ | refine W5 ?_ | refine W6 ?_ | refine W7 ?_ rfl);conv=>whnf)
  refine .inl ⟨_,alive,.inl rfl,?_⟩
  conv=>whnf
  repeat first | refine W1 ?_ | refine W3 ?_ | ((first | refine W2 hT hM [] ?_ | refine W4 ?_ | refine W5 ?_ | refine W6 ?_ | refine W7 ?_ rfl);conv=>whnf)
 have hl:l.length≤20:=by simp at hb;omega
 clear hb
 repeat first | refine W1 ?_ | refine W3 ?_ | ((first | refine W2 hT hM [] ?_ | refine W4 ?_ | refine W5 ?_ | refine W6 ?_ | refine W7 ?_ rfl);conv=>whnf)
 refine WP.loop (α:=Nat) (fun i=>⟨[(0,.d (.list (l.map mX))),(3,.d (.int .i64 i))],[],[]⟩) (fun i=>i≤l.length∧∀ j (h:j<l.length),j<i→okC l[j]) (fun i=>l.length-i) 0 [] [] ?_ ?_ ?_
 ·((conv=>whnf);repeat (first | exact True.intro | (refine And.intro (by first | rfl | exact ⟨rfl,rfl,rfl⟩ | exact ⟨rfl,rfl,by simp⟩ | exact ⟨rfl,rfl⟩ | exact ⟨rfl,by simp⟩ | (simp;done) | (simp;omega)) ?_;conv=>whnf)))
 ·exact ⟨Nat.zero_le _,fun j h hj=>by omega⟩
 ·rintro i ⟨hil,hok⟩
  repeat first | refine W1 ?_ | refine W3 ?_ | ((first | refine W2 hT hM [] ?_ | refine W4 ?_ | refine W5 ?_ | refine W6 ?_ | refine W7 ?_ rfl);conv=>whnf)
  (split<;>rename_i hb<;>(try rw [hb])<;>(conv=>whnf))
  ·have hlt:i<l.length:=by simpa using hb
   clear hb
   obtain ⟨hx,hy⟩:=hi _ (List.getElem_mem hlt)
   repeat first | refine W1 ?_ | refine W3 ?_ | ((first | refine W2 hT hM [] ?_ | refine W4 ?_ | refine W5 ?_ | refine W6 ?_ | refine W7 ?_ rfl);conv=>whnf)
   refine ⟨by omega,_,jd hlt,rfl,?_⟩
   conv=>whnf
   refine .inl ⟨_,Tryz.ND l[i].2.1 hx.1 hx.2,.inl rfl,?_⟩
   conv=>whnf
   cases h1:okF l[i].2.1 with
   | false=>
     conv=>whnf
     repeat first | refine W1 ?_ | refine W3 ?_ | ((first | refine W2 hT hM [] ?_ | refine W4 ?_ | refine W5 ?_ | refine W6 ?_ | refine W7 ?_ rfl);conv=>whnf)
     refine .inl ⟨_,alive,.inl rfl,?_⟩
     conv=>whnf
     repeat first | refine W1 ?_ | refine W3 ?_ | ((first | refine W2 hT hM [] ?_ | refine W4 ?_ | refine W5 ?_ | refine W6 ?_ | refine W7 ?_ rfl);conv=>whnf)
   | true=>
     conv=>whnf
     refine ⟨by omega,_,jd hlt,rfl,?_⟩
     conv=>whnf
     refine .inl ⟨_,Tryz.ND l[i].2.2 hy.1 hy.2,.inl rfl,?_⟩
     conv=>whnf
     cases h2:okF l[i].2.2 with
     | false=>
       conv=>whnf
       repeat first | refine W1 ?_ | refine W3 ?_ | ((first | refine W2 hT hM [] ?_ | refine W4 ?_ | refine W5 ?_ | refine W6 ?_ | refine W7 ?_ rfl);conv=>whnf)
       refine .inl ⟨_,alive,.inl rfl,?_⟩
       conv=>whnf
       repeat first | refine W1 ?_ | refine W3 ?_ | ((first | refine W2 hT hM [] ?_ | refine W4 ?_ | refine W5 ?_ | refine W6 ?_ | refine W7 ?_ rfl);conv=>whnf)
     | true=>
       conv=>whnf
       repeat first | refine W1 ?_ | refine W3 ?_ | ((first | refine W2 hT hM [] ?_ | refine W4 ?_ | refine W5 ?_ | refine W6 ?_ | refine W7 ?_ rfl);conv=>whnf)
       refine ⟨by omega,?_⟩
       conv=>whnf
       refine ⟨i+1,[],[],?_,⟨by omega,fun j h hj=>?_⟩,by omega⟩
       ·((conv=>whnf);repeat (first | exact True.intro | (refine And.intro (by first | rfl | exact ⟨rfl,rfl,rfl⟩ | exact ⟨rfl,rfl,by simp⟩ | exact ⟨rfl,rfl⟩ | exact ⟨rfl,by simp⟩ | (simp;done) | (simp;omega)) ?_;conv=>whnf)))
       ·by_cases e:j=i
        ·subst e;exact ⟨h1,h2⟩
        ·exact hok j h (by omega)
  ·have hii:i=l.length:=by simp at hb;omega
   subst hii
   clear hb
   have hall:∀ c∈l,okC c:=fun c hc=>by
    obtain ⟨j,hj,rfl⟩:=List.getElem_of_mem hc
    exact hok j hj hj
   have hdl:(lT l).length≤1000000:=by
    unfold lT;rw [List.length_map];exact Nat.le_trans (List.length_filter_le _ _) (by omega)
   have hints:=Tryz.ints (lT l) (lT l) hdl hdl
   rw [beq_self_eq_true] at hints
   repeat first | refine W1 ?_ | refine W3 ?_ | ((first | refine W2 hT hM [] ?_ | refine W4 ?_ | refine W5 ?_ | refine W6 ?_ | refine W7 ?_ rfl);conv=>whnf)
   refine .inl ⟨_,alive,.inl rfl,?_⟩
   conv=>whnf
   refine .inl ⟨_,Tryz.SB l hl hall,.inl rfl,?_⟩
   conv=>whnf
   refine .inl ⟨_,Tryz.J5 l hl hall,.inl rfl,?_⟩
   conv=>whnf
   refine .inl ⟨_,hints,.inl rfl,?_⟩
   conv=>whnf
   repeat first | refine W1 ?_ | refine W3 ?_ | ((first | refine W2 hT hM [] ?_ | refine W4 ?_ | refine W5 ?_ | refine W6 ?_ | refine W7 ?_ rfl);conv=>whnf)
end Go.Proofs.YthckjidmpbiccaaGreatDoor
namespace Go.Proofs.YthckjidmpbiccaaGreatDoor
open Go Go.RowKit Go.ChangeShapes Go.WideShapes
theorem XV {a:Addr} (h:a.spot=none) (n:Nat):a.add n=⟨a.block,a.off+n,none⟩:=by
 obtain ⟨b,o,s⟩:=a
 have hs:s=none:=h
 subst hs
 exact Addr.add_lit _ _ _
theorem Q5 {w:World} {a:Addr} {v:Value} (h:w.cell? (a.add 0)=some v):a.spot=none∧a.block<w.heap.size:=by
 have e:a.add 0=a:=by simp [Addr.add]
 rw [e] at h
 unfold World.cell? at h
 cases hh:w.heap[a.block]? with
 | none=>rw [hh] at h;cases h
 | some ob=>
   rw [hh] at h
   refine ⟨?_,(Array.getElem?_eq_some_iff.1 hh).1⟩
   cases ob with
   | cells c t f=>
     cases hs:a.spot with
     | none=>rfl
     | some _=>simp [hs] at h
   | _=>cases h
section
open Go.Abs Go.Own
variable {H:Type} {enc:TypeId×Value→H} {W:World} {held:Bool}
theorem Gp {n:Int} (h:(Lit.int .i64 n).wf=true):I64 n:=by
 simp [Lit.wf,IntKind.min,IntKind.max,IntKind.bits,IntKind.signed] at h
 unfold I64;omega
set_option maxRecDepth 100000 in
theorem Rn {n:Nat} {cs:List Value} {x:DataW H×List MemPlace} (h:DataW.trod enc Tryz.prog W 0 (fun _=>true) held n 30 cs=some x) :
  ∃ c:Ch,cs=[.int .i64 c.1,.int .i64 c.2.1.1,.int .i64 c.2.1.2,.int .i64 c.2.2.1,.int .i64 c.2.2.2]∧okI c.2.1∧okI c.2.2:=by
 have k1:Tryz.prog.cellsOf 3=1:=by kernel_rfl
 have k2:Tryz.prog.cellsOf 26=2:=by kernel_rfl
 have k4:Tryz.prog.cellsOf 28=4:=by kernel_rfl
 have k5:Tryz.prog.cellsOf 30=5:=by kernel_rfl
 obtain ⟨y0,y1,m,_,hl,h0,h1⟩:=trod_struct2 Tryz.underlying30 h
 rw [k5] at hl
 match cs,hl with
 | [c0,c1,c2,c3,c4],_=>
   simp only [k1,k4,List.drop,List.take] at h0 h1
   obtain ⟨z,e0,_,_⟩:=DataW.trod_int Tryz.underlying3 h0
   obtain ⟨z0,z1,m',_,_,g0,g1⟩:=trod_struct2 Tryz.underlying28 h1
   simp only [k2,List.drop,List.take] at g0 g1
   obtain ⟨u0,u1,m1,_,_,f0,f1⟩:=trod_struct2 Tryz.underlying26 g0
   obtain ⟨v0,v1,m2,_,_,f2,f3⟩:=trod_struct2 Tryz.underlying26 g1
   simp only [k1,List.drop,List.take] at f0 f1 f2 f3
   obtain ⟨a1,e1,_,w1⟩:=DataW.trod_int Tryz.underlying3 f0
   obtain ⟨a2,e2,_,w2⟩:=DataW.trod_int Tryz.underlying3 f1
   obtain ⟨a3,e3,_,w3⟩:=DataW.trod_int Tryz.underlying3 f2
   obtain ⟨a4,e4,_,w4⟩:=DataW.trod_int Tryz.underlying3 f3
   cases e0;cases e1;cases e2;cases e3;cases e4
   exact ⟨(z,(a1,a2),(a3,a4)),rfl,⟨Gp w1,Gp w2⟩,⟨Gp w3,Gp w4⟩⟩
set_option maxRecDepth 100000 in
theorem afL {r:Reach} {b0:Nat} {v:Value} {d:DataW H} {p:List MemPlace} (hval:Value.okWide Tryz.prog W r b0 22 v) (h:DataW.Trod enc Tryz.prog W 0 (fun _=>true) held 22 v d p) :
  ∃ l:List Ch,RdD (fun b=>b<W.heap.size) W v (.list (l.map mX))∧∀ c∈l,okI c.2.1∧okI c.2.2:=by
 obtain ⟨a0,len0,cap0,rfl⟩:=okWide_slice Tryz.underlying22 hval
 obtain ⟨fuel,h⟩:=h
 have k5:Tryz.prog.cellsOf 30=5:=by kernel_rfl
 rcases Deep.open_slice Tryz.underlying22 h with ⟨hcs,_⟩ | ⟨a,len,cap,m,n,DD,Pl,hcs,_,hl,hm,hmm,hx,hel⟩
 ·obtain hcs:[Value.slice a0 len0 cap0]=_:=hcs
  cases hcs
  exact ⟨[],.o9 _,fun _ h=>by cases h⟩
 obtain hcs:[Value.slice a0 len0 cap0]=_:=hcs
 cases hcs
 simp only [if_true] at hmm
 subst hmm
 rw [k5] at hel
 obtain ⟨y,hy⟩:=Deep.choose_lt (α:=Ch) (p:=fun i c=>(∀ j,W.cell? (a.add (i*5+j))=[Value.int .i64 c.1,.int .i64 c.2.1.1,.int .i64 c.2.1.2,.int .i64 c.2.2.1,.int .i64 c.2.2.2][j]?∨5≤j)∧okI c.2.1∧okI c.2.2) (fun i hi=>by
  obtain ⟨cs',h1,h2⟩:=hel i hi
  obtain ⟨c,rfl,g1,g2⟩:=Rn h2
  obtain ⟨_,_,h3⟩:=World.cells?_some h1
  refine ⟨c,fun j=>?_,g1,g2⟩
  by_cases hj:j<5
  ·left
   have:=h3 j hj
   rwa [Deep.add_add] at this
  ·right;omega)
 refine ⟨(List.range len0).map y,?_,fun w hw=>?_⟩
 ·rcases Nat.eq_zero_or_pos m with hz | hz
  ·subst hz
   obtain rfl:len0=0:=by omega
   exact .o9 _
  ·obtain ⟨hc,_⟩:=hy 0 hz
   have hc0:W.cell? (a.add 0)=some (.int .i64 (y 0).1):=by
    rcases hc 0 with h | h
    ·simpa using h
    ·omega
   obtain ⟨hs,hb⟩:=Q5 hc0
   have e:len0=(((List.range len0).map y).map mX).length:=by simp
   suffices hgoal:RdD (fun b=>b<W.heap.size) W (.slice (some a) (((List.range len0).map y).map mX).length m) (.list (((List.range len0).map y).map mX)) by rwa [← e] at hgoal
   have hcell:∀ (i:Nat) x (j:Nat) c,(((List.range len0).map y).map mX)[i]?=some x→(D.cells x)[j]?=some c→∃ u,W.cell? ⟨a.block,a.off+(i*5+j),none⟩=some u∧u.oneCell'=true∧D.one c=true∧RdD (fun b=>b<W.heap.size) W u c:=fun i x j c hx hcx=>by
    simp only [List.map_map,List.getElem?_map,Option.map_eq_some_iff] at hx
    obtain ⟨r,hri,rfl⟩:=hx
    have hi:i<len0:=by have:=(List.getElem?_eq_some_iff.1 hri).1;simpa using this
    obtain rfl:r=i:=by rw [List.getElem?_range hi] at hri;exact (Option.some.inj hri).symm
    obtain ⟨h3,_,_⟩:=hy r (by omega)
    have h3:=h3 j
    rw [XV hs] at h3
    have hcs:(D.cells (mX (y r)))[j]?=[D.int .i64 (y r).1,D.int .i64 (y r).2.1.1,D.int .i64 (y r).2.1.2,D.int .i64 (y r).2.2.1,D.int .i64 (y r).2.2.2][j]?:=rfl
    have hcx:[D.int .i64 (y r).1,D.int .i64 (y r).2.1.1,D.int .i64 (y r).2.1.2,D.int .i64 (y r).2.2.1,D.int .i64 (y r).2.2.2][j]?=some c:=by rw [← hcs];exact hcx
    match j,hcx,h3 with
    | 0,hcx,h3 | 1,hcx,h3 | 2,hcx,h3 | 3,hcx,h3 | 4,hcx,h3=>
      have hcx:=Option.some.inj hcx;subst hcx
      exact ⟨_,by rcases h3 with h | h;· exact h
                  ·omega,rfl,rfl,.int _ _⟩
    | j+5,hcx,_=>simp at hcx
   refine .lst a m 5 _ (fun i j=>(W.cell? ⟨a.block,a.off+(i*5+j),none⟩).getD undef) hb hs (by simpa using hl) hm (by decide) (fun i x hx=>?_) (fun i x j c hx hcx=>?_) (fun i x j c hx hcx=>?_)
   ·simp only [List.map_map,List.getElem?_map,Option.map_eq_some_iff] at hx
    obtain ⟨r,_,rfl⟩:=hx;rfl
   ·obtain ⟨u,h1,h2,h3,_⟩:=hcell i x j c hx hcx
    rw [h1];exact ⟨rfl,h2,h3⟩
   ·obtain ⟨u,h1,_,_,h4⟩:=hcell i x j c hx hcx
    rw [h1];exact h4
 ·obtain ⟨r,hr,rfl⟩:=List.mem_map.1 hw
  have:=List.mem_range.1 hr
  obtain ⟨_,g1,g2⟩:=hy r (by omega)
  exact ⟨g1,g2⟩
end
end Go.Proofs.YthckjidmpbiccaaGreatDoor
namespace Go.Proofs.YthckjidmpbiccaaGreatDoor
open Go Go.RowKit Go.ChangeShapes Go.WideShapes
theorem uS {P:Program} {w:World}:∀ {l:List (String×DataW Unit)} {ps:List MemPlace},DataW.LaidVars P w l ps→∀ n d,(n,d)∈l →
  ∃ g t cs fuel p,P.globalNamed n=some g∧(P.globals[g]?).map (·.type)=some t∧w.var? P n=some cs∧DataW.trod (fun _=>()) P w 0 (fun _=>true) false fuel t cs.toList=some (d,p)
 | [],_,_,n,d,hm=>by cases hm
 | (n',d')::r,ps,h,n,d,hm=>by
   obtain ⟨g,t,cs,fuel,p,q,h1,h2,h3,h4,h5,_⟩:=h
   rcases List.mem_cons.1 hm with he | hm
   ·cases he;exact ⟨g,t,cs,fuel,p,h1,h2,h3,h4⟩
   ·exact uS h5 n d hm
theorem qj {P:Program} {w:World} {n:String} {g:Nat} {cs:Array Value} (hg:P.globalNamed n=some g) (h:w.var? P n=some cs):∃ t fz,w.heap[g]?=some (.cells cs t fz):=by
 unfold World.var? at h
 rw [hg,Option.bind_some] at h
 split at h
 ·rename_i cs' t' fz' hw
  cases h
  exact ⟨_,_,hw⟩
 ·cases h
def dV:Abs.D→Value
 | .bool b => .bool b
 | .int k n => .int k n
 | .str s => .string ⟨s.toArray⟩
 | _ => .nilIface
def dOk:Abs.D→Bool
 | .bool _ | .int _ _=>true
 | .str s=>decide (s.length≤maxLen)
 | _=>false
theorem Wp {ok:Nat→Prop} {w:World} {d:Abs.D} (h:dOk d=true):Abs.RdD ok w (dV d) d∧(dV d).oneCell'=true∧Abs.D.one d=true:=by
 cases d<;>simp [dOk] at h
 ·exact ⟨.bool _,rfl,rfl⟩
 ·exact ⟨.int _ _,rfl,rfl⟩
 ·exact ⟨.str _ h,rfl,rfl⟩
theorem akl {ok:Nat→Prop} {w:World} {d:Abs.D} {v:Value} (h:dOk d=true) (hr:Abs.RdD ok w v d):v=dV d:=by
 cases d<;>simp [dOk] at h<;>cases hr<;>rfl
theorem jD {w:World} {g:Nat} {cur:Array Value} {t:TypeId} {fz:Nat×Nat} {ds:List Abs.D} (h:w.heap[g]?=some (.cells cur t fz)) (hc:cur.toList=ds.map dV) (hf:ds.all dOk=true) :
  Abs.RdD (fun b=>b<w.heap.size) w (.pointer (some ⟨g,0,none⟩)) (.ref ds 0):=by
 have hcell:∀ (j:Nat) c,ds[j]?=some c→w.cell? ⟨g,0+j,none⟩=some (dV c)∧dOk c=true:=fun j c hj=>by
  rw [cell_of_row w g _ cur t fz h]
  refine ⟨?_,List.all_eq_true.1 hf c (List.mem_of_getElem? hj)⟩
  have:cur.toList[j]?=some (dV c):=by rw [hc,List.getElem?_map,hj];rfl
  simpa using this
 refine .ref g 0 0 ds (fun j=>(w.cell? ⟨g,0+j,none⟩).getD undef) (Array.getElem?_eq_some_iff.1 h).1 (fun j c hj=>?_) fun j c hj=>?_
 ·obtain ⟨h1,h2⟩:=hcell j c hj
  rw [h1];exact ⟨rfl,(Wp (ok:=fun _=>True) (w:=w) h2).2⟩
 ·obtain ⟨h1,h2⟩:=hcell j c hj
  rw [h1];exact (Wp h2).1
theorem Hu {ok:Nat→Prop} {w:World} {g:Nat} {ds:List Abs.D} (h:Abs.RdD ok w (.pointer (some ⟨g,0,none⟩)) (.ref ds 0)) (hf:ds.all dOk=true) (hne:ds≠[]) :
  ∃ cur t fz,w.heap[g]?=some (.cells cur t fz)∧ds.length≤cur.size∧∀ i,i<(ds.map dV).length→cur[i]?=(ds.map dV)[i]?:=by
 generalize hp:Value.pointer (some ⟨g,0,none⟩)=pv at h
 cases h with
 | ref b o off _ us hb h1 h2=>
   simp only [Value.pointer.injEq,Option.some.injEq,Addr.mk.injEq,and_true] at hp
   obtain ⟨rfl,ho⟩:=hp
   obtain rfl:o=0:=by omega
   have hcell:∀ (j:Nat) c,ds[j]?=some c→w.cell? ⟨g,j,none⟩=some (dV c):=fun j c hj=>by
    have e:=(h1 j c hj).1
    rw [Nat.zero_add] at e
    rw [e,akl (List.all_eq_true.1 hf c (List.mem_of_getElem? hj)) (h2 j c hj)]
   have h0:∃ c,ds[0]?=some c:=by
    cases ds with
    | nil=>exact absurd rfl hne
    | cons c l=>exact ⟨c,rfl⟩
   obtain ⟨c0,hc0⟩:=h0
   have hc:=hcell 0 c0 hc0
   unfold World.cell? at hc
   cases hh:w.heap[g]? with
   | none=>rw [hh] at hc;cases hc
   | some ob=>
     cases ob with
     | cells cur t fz=>
       have hi:∀ i,i<(ds.map dV).length→cur[i]?=(ds.map dV)[i]?:=fun i hi=>by
        have hi':i<ds.length:=by simpa using hi
        have:=hcell i ds[i] (List.getElem?_eq_getElem hi')
        rw [cell_of_row w g _ cur t fz hh] at this
        rw [this,List.getElem?_map,List.getElem?_eq_getElem hi'];rfl
       refine ⟨cur,t,fz,rfl,?_,hi⟩
       have hlast:ds.length-1<ds.length:=by cases ds with
        | nil=>exact absurd rfl hne
        | cons c l=>simp
       have h2:=hi (ds.length-1) (by simpa using hlast)
       rw [List.getElem?_eq_getElem (by simpa using hlast)] at h2
       have:=(Array.getElem?_eq_some_iff.1 h2).1
       omega
     | _=>rw [hh] at hc;cases hc
section
variable {H:Type} {enc:TypeId×Value→H}
set_option maxRecDepth 100000 in
theorem nS {w:World} {base:Nat} {sp:Nat→Bool} {held:Bool} {fuel:Nat} {cs:List Value} {p:List MemPlace} {a d:Int}
  (h:DataW.trod enc Tryz.prog w base sp held fuel 26 cs=some (.agg [.lit (.int .i64 a),.lit (.int .i64 d)],p)):cs=[Abs.D.int .i64 a,Abs.D.int .i64 d].map dV:=by
 have k2:Tryz.prog.cellsOf 26=2:=by kernel_rfl
 have k4:Tryz.prog.cellsOf 3=1:=by kernel_rfl
 obtain ⟨z0,z1,m',hx,hl,g0,g1⟩:=trod_struct2 Tryz.underlying26 h
 rw [k2] at hl
 match cs,hl with
 | [c0,c1],_=>
   simp only [k4,List.drop,List.take] at g0 g1
   obtain ⟨a',e1,f1,w1⟩:=DataW.trod_int Tryz.underlying3 g0
   obtain ⟨d',e2,f2,w2⟩:=DataW.trod_int Tryz.underlying3 g1
   cases e1;cases e2;subst f1;subst f2
   cases hx
   rfl
set_option maxRecDepth 100000 in
theorem Ih {w:World} {base:Nat} {sp:Nat→Bool} {held:Bool} {fuel:Nat} {cs:List Value} {p:List MemPlace} {a b c d:Int}
  (h:DataW.trod enc Tryz.prog w base sp held fuel 28 cs=some (.agg [.agg [.lit (.int .i64 a),.lit (.int .i64 b)],.agg [.lit (.int .i64 c),.lit (.int .i64 d)]],p)) :
  cs=[Abs.D.int .i64 a,Abs.D.int .i64 b,Abs.D.int .i64 c,Abs.D.int .i64 d].map dV:=by
 have k2:Tryz.prog.cellsOf 26=2:=by kernel_rfl
 have k4:Tryz.prog.cellsOf 28=4:=by kernel_rfl
 obtain ⟨⟨z0,p0⟩,⟨z1,p1⟩,m',hx,hl,g0,g1⟩:=trod_struct2 Tryz.underlying28 h
 rw [k4] at hl
 match cs,hl with
 | [c0,c1,c2,c3],_=>
   simp only [k2,List.drop,List.take] at g0 g1
   cases hx
   have e0:=nS g0
   have e1:=nS g1
   show [c0,c1]++[c2,c3]=_
   rw [e0,e1];rfl
end
end Go.Proofs.YthckjidmpbiccaaGreatDoor
