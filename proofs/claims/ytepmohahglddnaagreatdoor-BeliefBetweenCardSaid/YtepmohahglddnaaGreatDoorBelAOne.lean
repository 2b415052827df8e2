/- Walks: fractions. -/
import Derived.Test.YtepmohahglddnaaGreatDoorBelMOne
import Derived.Test.YtepmohahglddnaaGreatDoorOwnTAnd
set_option linter.unusedVariables false
set_option linter.unusedSimpArgs false
set_option linter.all false
namespace Go.Proofs.YtepmohahglddnaaGreatDoor
open Go Go.Abs Go.Own
attribute [local irreducible] WP
def I64 (n:Int):Prop:=-9223372036854775808≤n∧n≤9223372036854775807
def enU (n:Nat):D := .int .u64 n
def enQ (f:Fr):D := .agg [.int .i64 f.1,.int .i64 f.2]
theorem MP (n:Int) (h0:0≤n) (h:n<18446744073709551616):IntKind.u64.wrap n=n:=by
 unfold IntKind.wrap;simp [IntKind.bits,IntKind.signed];omega
theorem Tryz.magnitude (n:Int) (h:I64 n):Pure Tryz.prog 50 [.int .i64 n] [enU n.natAbs]:=by
 refine Pure.of_wp hT (nt:=_) (c:=_) Tryz.func50 rfl rfl rfl rfl (by kernel_rfl) ?_
 intro w0 ok0 β0
 obtain ⟨h1,h2⟩:=h
 repeat first | refine W1 ?_ | refine W3 ?_ | ((first | refine W2 hT hM [] ?_ | refine W4 ?_ | refine W5 ?_ | refine W6 ?_ | refine W7 ?_ rfl);conv=>whnf)
 (split<;>rename_i hb<;>(try rw [hb])<;>(conv=>whnf))
 ·have hn:n<0:=by simpa using hb
  repeat first | refine W1 ?_ | refine W3 ?_ | ((first | refine W2 hT hM [] ?_ | refine W4 ?_ | refine W5 ?_ | refine W6 ?_ | refine W7 ?_ rfl);conv=>whnf)
  refine ⟨by omega,?_⟩
  conv=>whnf
  refine ⟨by omega,?_⟩
  conv=>whnf
  repeat first | refine W1 ?_ | refine W3 ?_ | ((first | refine W2 hT hM [] ?_ | refine W4 ?_ | refine W5 ?_ | refine W6 ?_ | refine W7 ?_ rfl);conv=>whnf)
  rw [MP (0-(n+1)) (by omega) (by omega),MP _ (by omega) (by omega)]
  unfold enU;congr 2;omega
 ·have hn:¬ n<0:=by simpa using hb
  repeat first | refine W1 ?_ | refine W3 ?_ | ((first | refine W2 hT hM [] ?_ | refine W4 ?_ | refine W5 ?_ | refine W6 ?_ | refine W7 ?_ rfl);conv=>whnf)
  rw [MP n (by omega) (by omega)]
  unfold enU;congr 2;omega
theorem Tryz.divisor (a b:Nat) (ha:a<18446744073709551616) (hb:b<18446744073709551616):Pure Tryz.prog 51 [enU a,enU b] [enU (a.gcd b)]:=by
 refine Pure.of_wp hT (nt:=_) (c:=_) Tryz.func51 rfl rfl rfl rfl (by kernel_rfl) ?_
 intro w0 ok0 β0
 repeat first | refine W1 ?_ | refine W3 ?_ | ((first | refine W2 hT hM [] ?_ | refine W4 ?_ | refine W5 ?_ | refine W6 ?_ | refine W7 ?_ rfl);conv=>whnf)
 refine WP.loop (α:=Nat×Nat) (fun p=>⟨[(0,.d (enU p.1)),(1,.d (enU p.2))],[],[]⟩) (fun p=>p.1.gcd p.2=a.gcd b) (fun p=>p.2) (a,b) [] [] ?_ ?_ ?_
 ·((conv=>whnf);repeat (first | exact True.intro | (refine And.intro (by first | rfl | exact ⟨rfl,rfl,rfl⟩ | exact ⟨rfl,rfl,by simp⟩ | exact ⟨rfl,rfl⟩ | exact ⟨rfl,by simp⟩ | (simp;done) | (simp;omega)) ?_;conv=>whnf)))
 ·rfl
 ·rintro ⟨x,y⟩ hi
  repeat first | refine W1 ?_ | refine W3 ?_ | ((first | refine W2 hT hM [] ?_ | refine W4 ?_ | refine W5 ?_ | refine W6 ?_ | refine W7 ?_ rfl);conv=>whnf)
  (split<;>rename_i hb<;>(try rw [hb])<;>(conv=>whnf))
  ·have hy:y≠0:=by simpa using hb
   repeat first | refine W1 ?_ | refine W3 ?_ | ((first | refine W2 hT hM [] ?_ | refine W4 ?_ | refine W5 ?_ | refine W6 ?_ | refine W7 ?_ rfl);conv=>whnf)
   refine ⟨by simpa using hy,?_⟩
   conv=>whnf
   repeat first | refine W1 ?_ | refine W3 ?_ | ((first | refine W2 hT hM [] ?_ | refine W4 ?_ | refine W5 ?_ | refine W6 ?_ | refine W7 ?_ rfl);conv=>whnf)
   refine ⟨(y,x % y),[],[],?_,?_,Nat.mod_lt _ (by omega)⟩
   ·((conv=>whnf);repeat (first | exact True.intro | (refine And.intro (by first | rfl | exact ⟨rfl,rfl,rfl⟩ | exact ⟨rfl,rfl,by simp⟩ | exact ⟨rfl,rfl⟩ | exact ⟨rfl,by simp⟩ | (simp;done) | (simp;omega)) ?_;conv=>whnf)))
   ·show y.gcd (x % y)=_
    rw [← hi,Nat.gcd_comm y,← Nat.gcd_rec,Nat.gcd_comm]
  ·have hy:y=0:=by simpa using hb
   subst hy
   repeat first | refine W1 ?_ | refine W3 ?_ | ((first | refine W2 hT hM [] ?_ | refine W4 ?_ | refine W5 ?_ | refine W6 ?_ | refine W7 ?_ rfl);conv=>whnf)
   rw [← hi];show _=[enU (x.gcd 0)];rw [Nat.gcd_zero_right]
theorem aiS (a b:Nat) (ha:a<18446744073709551616):IntKind.u64.wrap ((a:Int).tdiv (b:Int))=((a / b:Nat):Int):=by
 have e:(a:Int).tdiv (b:Int)=((a / b:Nat):Int):=rfl
 have:=Nat.div_le_self a b
 rw [e]
 generalize a / b=q at this ⊢
 exact MP _ (by omega) (by omega)
theorem Tryz.make (n d:Int) (hn:I64 n) (hd:I64 d):Pure Tryz.prog 32 [.int .i64 n,.int .i64 d] [enQ (mkF n d).1,.int .i64 (mkF n d).2]:=by
 refine Pure.of_wp hT (nt:=_) (c:=_) Tryz.func32 rfl rfl rfl rfl (by kernel_rfl) ?_
 intro w0 ok0 β0
 have b1:n.natAbs<18446744073709551616:=by have:=hn.1;have:=hn.2;omega
 have b2:d.natAbs<18446744073709551616:=by have:=hd.1;have:=hd.2;omega
 repeat first | refine W1 ?_ | refine W3 ?_ | ((first | refine W2 hT hM [] ?_ | refine W4 ?_ | refine W5 ?_ | refine W6 ?_ | refine W7 ?_ rfl);conv=>whnf)
 (split<;>rename_i hb<;>(try rw [hb])<;>(conv=>whnf))
 ·have h0:d=0:=by simpa using hb
  subst h0
  repeat first | refine W1 ?_ | refine W3 ?_ | ((first | refine W2 hT hM [] ?_ | refine W4 ?_ | refine W5 ?_ | refine W6 ?_ | refine W7 ?_ rfl);conv=>whnf)
  rfl
 ·have h0:d≠0:=by simpa using hb
  repeat first | refine W1 ?_ | refine W3 ?_ | ((first | refine W2 hT hM [] ?_ | refine W4 ?_ | refine W5 ?_ | refine W6 ?_ | refine W7 ?_ rfl);conv=>whnf)
  refine .inl ⟨_,Tryz.magnitude n hn,.inl rfl,?_⟩
  conv=>whnf
  repeat first | refine W1 ?_ | refine W3 ?_ | ((first | refine W2 hT hM [] ?_ | refine W4 ?_ | refine W5 ?_ | refine W6 ?_ | refine W7 ?_ rfl);conv=>whnf)
  refine .inl ⟨_,Tryz.magnitude d hd,.inl rfl,?_⟩
  conv=>whnf
  repeat first | refine W1 ?_ | refine W3 ?_ | ((first | refine W2 hT hM [] ?_ | refine W4 ?_ | refine W5 ?_ | refine W6 ?_ | refine W7 ?_ rfl);conv=>whnf)
  refine .inl ⟨_,Tryz.divisor _ _ b1 b2,.inl rfl,?_⟩
  conv=>whnf
  repeat first | refine W1 ?_ | refine W3 ?_ | ((first | refine W2 hT hM [] ?_ | refine W4 ?_ | refine W5 ?_ | refine W6 ?_ | refine W7 ?_ rfl);conv=>whnf)
  have em:mkF n d=if n.natAbs / n.natAbs.gcd d.natAbs>mst∨d.natAbs / n.natAbs.gcd d.natAbs>mst then ((0,0),12) else
    ((if n<0↔d<0 then ((n.natAbs / n.natAbs.gcd d.natAbs:Nat):Int) else -((n.natAbs / n.natAbs.gcd d.natAbs:Nat):Int),((d.natAbs / n.natAbs.gcd d.natAbs:Nat):Int)),0):=by
   unfold mkF;rw [if_neg h0]
  have hg:n.natAbs.gcd d.natAbs≠0:=fun e=>h0 (by have:=Nat.eq_zero_of_gcd_eq_zero_right e;omega)
  generalize n.natAbs.gcd d.natAbs=g at em hg ⊢
  refine ⟨by omega,?_⟩
  conv=>whnf
  rw [aiS _ _ b1]
  refine ⟨by omega,?_⟩
  conv=>whnf
  rw [aiS _ _ b2]
  generalize n.natAbs / g=a at em ⊢
  generalize d.natAbs / g=c at em ⊢
  repeat first | refine W1 ?_ | refine W3 ?_ | ((first | refine W2 hT hM [] ?_ | refine W4 ?_ | refine W5 ?_ | refine W6 ?_ | refine W7 ?_ rfl);conv=>whnf)
  (split<;>rename_i hb<;>(try rw [hb])<;>(conv=>whnf))
  ·have ha:a>mst:=by simp [mst] at hb ⊢;omega
   repeat first | refine W1 ?_ | refine W3 ?_ | ((first | refine W2 hT hM [] ?_ | refine W4 ?_ | refine W5 ?_ | refine W6 ?_ | refine W7 ?_ rfl);conv=>whnf)
   rw [em,if_pos (.inl ha)];rfl
  ·have ha:¬ a>mst:=by simp [mst] at hb ⊢;omega
   clear hb
   repeat first | refine W1 ?_ | refine W3 ?_ | ((first | refine W2 hT hM [] ?_ | refine W4 ?_ | refine W5 ?_ | refine W6 ?_ | refine W7 ?_ rfl);conv=>whnf)
   (split<;>rename_i hb<;>(try rw [hb])<;>(conv=>whnf))
   ·have hc:c>mst:=by simp [mst] at hb ⊢;omega
    repeat first | refine W1 ?_ | refine W3 ?_ | ((first | refine W2 hT hM [] ?_ | refine W4 ?_ | refine W5 ?_ | refine W6 ?_ | refine W7 ?_ rfl);conv=>whnf)
    rw [em,if_pos (.inr hc)];rfl
   ·have hc:¬ c>mst:=by simp [mst] at hb ⊢;omega
    clear hb
    rw [if_neg (by omega)] at em
    unfold mst at ha hc
    repeat first | refine W1 ?_ | refine W3 ?_ | ((first | refine W2 hT hM [] ?_ | refine W4 ?_ | refine W5 ?_ | refine W6 ?_ | refine W7 ?_ rfl);conv=>whnf)
    (repeat (refine ⟨by first | rfl | omega,?_⟩;conv=>whnf))
    repeat first | refine W1 ?_ | refine W3 ?_ | ((first | refine W2 hT hM [] ?_ | refine W4 ?_ | refine W5 ?_ | refine W6 ?_ | refine W7 ?_ rfl);conv=>whnf)
    (split<;>rename_i hb<;>(try rw [hb])<;>(conv=>whnf))
    ·have hs:¬ (n<0↔d<0):=by simp at hb;intro h;simp [h] at hb
     repeat first | refine W1 ?_ | refine W3 ?_ | ((first | refine W2 hT hM [] ?_ | refine W4 ?_ | refine W5 ?_ | refine W6 ?_ | refine W7 ?_ rfl);conv=>whnf)
     (repeat (refine ⟨by first | rfl | omega,?_⟩;conv=>whnf))
     repeat first | refine W1 ?_ | refine W3 ?_ | ((first | refine W2 hT hM [] ?_ | refine W4 ?_ | refine W5 ?_ | refine W6 ?_ | refine W7 ?_ rfl);conv=>whnf)
     (repeat (refine ⟨by first | rfl | omega,?_⟩;conv=>whnf))
     repeat first | refine W1 ?_ | refine W3 ?_ | ((first | refine W2 hT hM [] ?_ | refine W4 ?_ | refine W5 ?_ | refine W6 ?_ | refine W7 ?_ rfl);conv=>whnf)
     rw [em,if_neg hs,Int.zero_sub]
     rfl
    ·have hs:(n<0↔d<0):=by simpa using hb
     repeat first | refine W1 ?_ | refine W3 ?_ | ((first | refine W2 hT hM [] ?_ | refine W4 ?_ | refine W5 ?_ | refine W6 ?_ | refine W7 ?_ rfl);conv=>whnf)
     rw [em,if_pos hs];rfl
theorem eqQ (f g:Fr):aT [.int .i64 f.1,.int .i64 f.2] [.int .i64 g.1,.int .i64 g.2]=decide (f=g):=by
 rw [Bool.eq_iff_iff,decide_eq_true_iff,Prod.ext_iff]
 simp [aT,eq1]
theorem Tryz.valid (f:Fr) (h1:I64 f.1) (h2:I64 f.2):Pure Tryz.prog 15 [enQ f] [.bool (okF f)]:=by
 refine Pure.of_wp hT (nt:=_) (c:=_) Tryz.func15 rfl rfl rfl rfl (by kernel_rfl) ?_
 intro w0 ok0 β0
 repeat first | refine W1 ?_ | refine W3 ?_ | ((first | refine W2 hT hM [] ?_ | refine W4 ?_ | refine W5 ?_ | refine W6 ?_ | refine W7 ?_ rfl);conv=>whnf)
 refine .inl ⟨_,Tryz.make f.1 f.2 h1 h2,.inl rfl,?_⟩
 conv=>whnf
 repeat first | refine W1 ?_ | refine W3 ?_ | ((first | refine W2 hT hM [] ?_ | refine W4 ?_ | refine W5 ?_ | refine W6 ?_ | refine W7 ?_ rfl);conv=>whnf)
 (split<;>rename_i hb<;>(try rw [hb])<;>(conv=>whnf))
 ·have he:(mkF f.1 f.2).2=0:=by simpa using hb
  repeat first | refine W1 ?_ | refine W3 ?_ | ((first | refine W2 hT hM [] ?_ | refine W4 ?_ | refine W5 ?_ | refine W6 ?_ | refine W7 ?_ rfl);conv=>whnf)
  rw [eqQ]
  congr 2
  rw [Bool.eq_iff_iff,Uk,decide_eq_true_iff]
  constructor
  ·intro h;exact Prod.ext h.symm he
  ·intro h;rw [h]
 ·have he:(mkF f.1 f.2).2≠0:=by simpa using hb
  repeat first | refine W1 ?_ | refine W3 ?_ | ((first | refine W2 hT hM [] ?_ | refine W4 ?_ | refine W5 ?_ | refine W6 ?_ | refine W7 ?_ rfl);conv=>whnf)
  have:okF f=false:=Bool.eq_false_iff.2 fun h=>he (by rw [(Uk f).1 h])
  rw [this]
theorem Tryz.both (a b:Fr) (h1:I64 a.1) (h2:I64 a.2) (h3:I64 b.1) (h4:I64 b.2):Pure Tryz.prog 52 [enQ a,enQ b] [.int .i64 (if okF a&&okF b then 0 else 13)]:=by
 refine Pure.of_wp hT (nt:=_) (c:=_) Tryz.func52 rfl rfl rfl rfl (by kernel_rfl) ?_
 intro w0 ok0 β0
 repeat first | refine W1 ?_ | refine W3 ?_ | ((first | refine W2 hT hM [] ?_ | refine W4 ?_ | refine W5 ?_ | refine W6 ?_ | refine W7 ?_ rfl);conv=>whnf)
 refine .inl ⟨_,Tryz.valid a h1 h2,.inl rfl,?_⟩
 conv=>whnf
 repeat first | refine W1 ?_ | refine W3 ?_ | ((first | refine W2 hT hM [] ?_ | refine W4 ?_ | refine W5 ?_ | refine W6 ?_ | refine W7 ?_ rfl);conv=>whnf)
 (split<;>rename_i hb<;>(try rw [hb])<;>(conv=>whnf))
 ·have ha:okF a=false:=by simpa using hb
  repeat first | refine W1 ?_ | refine W3 ?_ | ((first | refine W2 hT hM [] ?_ | refine W4 ?_ | refine W5 ?_ | refine W6 ?_ | refine W7 ?_ rfl);conv=>whnf)
  rw [ha];rfl
 ·have ha:okF a=true:=by simpa using hb
  repeat first | refine W1 ?_ | refine W3 ?_ | ((first | refine W2 hT hM [] ?_ | refine W4 ?_ | refine W5 ?_ | refine W6 ?_ | refine W7 ?_ rfl);conv=>whnf)
  refine .inl ⟨_,Tryz.valid b h3 h4,.inl rfl,?_⟩
  conv=>whnf
  repeat first | refine W1 ?_ | refine W3 ?_ | ((first | refine W2 hT hM [] ?_ | refine W4 ?_ | refine W5 ?_ | refine W6 ?_ | refine W7 ?_ rfl);conv=>whnf)
  (split<;>rename_i hb<;>(try rw [hb])<;>(conv=>whnf))
  ·have hb':okF b=false:=by simpa using hb
   repeat first | refine W1 ?_ | refine W3 ?_ | ((first | refine W2 hT hM [] ?_ | refine W4 ?_ | refine W5 ?_ | refine W6 ?_ | refine W7 ?_ rfl);conv=>whnf)
   rw [ha,hb'];rfl
  ·have hb':okF b=true:=by simpa using hb
   repeat first | refine W1 ?_ | refine W3 ?_ | ((first | refine W2 hT hM [] ?_ | refine W4 ?_ | refine W5 ?_ | refine W6 ?_ | refine W7 ?_ rfl);conv=>whnf)
   rw [ha,hb'];rfl
theorem zQ {x y:Int} (h1:-mst≤x) (h2:x≤mst) (h3:1≤y) (h4:y≤mst):-(1152921504606846976:Int)≤x*y∧x*y≤1152921504606846976:=by
 have e:(1152921504606846976:Int)=mst*mst:=by decide
 rw [e]
 have hm:(0:Int)≤mst:=by decide
 constructor
 ·have:-x*y≤(mst:Int)*(mst:Int):=Int.mul_le_mul (by omega) h4 (by omega) hm
  rw [Int.neg_mul] at this;omega
 ·exact Int.mul_le_mul h2 h4 (by omega) hm
theorem Tryz.add (a b:Fr) (h1:I64 a.1) (h2:I64 a.2) (h3:I64 b.1) (h4:I64 b.2):Pure Tryz.prog 33 [enQ a,enQ b] [enQ (iE a b).1,.int .i64 (iE a b).2]:=by
 refine Pure.of_wp hT (nt:=_) (c:=_) Tryz.func33 rfl rfl rfl rfl (by kernel_rfl) ?_
 intro w0 ok0 β0
 repeat first | refine W1 ?_ | refine W3 ?_ | ((first | refine W2 hT hM [] ?_ | refine W4 ?_ | refine W5 ?_ | refine W6 ?_ | refine W7 ?_ rfl);conv=>whnf)
 refine .inl ⟨_,Tryz.both a b h1 h2 h3 h4,.inl rfl,?_⟩
 conv=>whnf
 repeat first | refine W1 ?_ | refine W3 ?_ | ((first | refine W2 hT hM [] ?_ | refine W4 ?_ | refine W5 ?_ | refine W6 ?_ | refine W7 ?_ rfl);conv=>whnf)
 cases hab:okF a&&okF b with
 | false=>
   repeat first | refine W1 ?_ | refine W3 ?_ | ((first | refine W2 hT hM [] ?_ | refine W4 ?_ | refine W5 ?_ | refine W6 ?_ | refine W7 ?_ rfl);conv=>whnf)
   have:iE a b=((0,0),13):=by unfold iE;rw [hab];rfl
   rw [this];rfl
 | true=>
   have e:iE a b=mkF (a.1*b.2+b.1*a.2) (a.2*b.2):=by unfold iE;rw [hab];rfl
   obtain ⟨ka,kb⟩:=(Bool.and_eq_true _ _).mp hab
   obtain ⟨a1,a2,a3,a4,_⟩:=dU.1 ka
   obtain ⟨b1,b2,b3,b4,_⟩:=dU.1 kb
   have m1:=zQ a3 a4 b1 b2
   have m2:=zQ b3 b4 a1 a2
   have m3:=zQ (x:=a.2) (y:=b.2) (by unfold mst at *;omega) a2 b1 b2
   repeat first | refine W1 ?_ | refine W3 ?_ | ((first | refine W2 hT hM [] ?_ | refine W4 ?_ | refine W5 ?_ | refine W6 ?_ | refine W7 ?_ rfl);conv=>whnf)
   refine ⟨by omega,?_⟩
   conv=>whnf
   refine ⟨by omega,?_⟩
   conv=>whnf
   refine ⟨by omega,?_⟩
   conv=>whnf
   refine ⟨by omega,?_⟩
   conv=>whnf
   repeat first | refine W1 ?_ | refine W3 ?_ | ((first | refine W2 hT hM [] ?_ | refine W4 ?_ | refine W5 ?_ | refine W6 ?_ | refine W7 ?_ rfl);conv=>whnf)
   refine .inl ⟨_,Tryz.make _ _ ⟨by omega,by omega⟩ ⟨by omega,by omega⟩,.inl rfl,?_⟩
   conv=>whnf
   repeat first | refine W1 ?_ | refine W3 ?_ | ((first | refine W2 hT hM [] ?_ | refine W4 ?_ | refine W5 ?_ | refine W6 ?_ | refine W7 ?_ rfl);conv=>whnf)
   rw [e]
   rfl
theorem Tryz.compare (a b:Fr) (ka:okF a=true) (kb:okF b=true):Pure Tryz.prog 11 [enQ a,enQ b] [.int .i64 (kC a b)]:=by
 refine Pure.of_wp hT (nt:=_) (c:=_) Tryz.func11 rfl rfl rfl rfl (by kernel_rfl) ?_
 intro w0 ok0 β0
 obtain ⟨a1,a2,a3,a4,_⟩:=dU.1 ka
 obtain ⟨b1,b2,b3,b4,_⟩:=dU.1 kb
 have m1:=zQ a3 a4 b1 b2
 have m2:=zQ b3 b4 a1 a2
 repeat first | refine W1 ?_ | refine W3 ?_ | ((first | refine W2 hT hM [] ?_ | refine W4 ?_ | refine W5 ?_ | refine W6 ?_ | refine W7 ?_ rfl);conv=>whnf)
 refine ⟨by omega,?_⟩
 conv=>whnf
 refine ⟨by omega,?_⟩
 conv=>whnf
 repeat first | refine W1 ?_ | refine W3 ?_ | ((first | refine W2 hT hM [] ?_ | refine W4 ?_ | refine W5 ?_ | refine W6 ?_ | refine W7 ?_ rfl);conv=>whnf)
 rw [eqQ]
 by_cases hab:a=b
 ·rw [decide_eq_true hab]
  repeat first | refine W1 ?_ | refine W3 ?_ | ((first | refine W2 hT hM [] ?_ | refine W4 ?_ | refine W5 ?_ | refine W6 ?_ | refine W7 ?_ rfl);conv=>whnf)
  subst hab
  unfold kC;rw [if_neg (by omega),if_neg (by omega)]
 ·rw [decide_eq_false hab]
  repeat first | refine W1 ?_ | refine W3 ?_ | ((first | refine W2 hT hM [] ?_ | refine W4 ?_ | refine W5 ?_ | refine W6 ?_ | refine W7 ?_ rfl);conv=>whnf)
  (split<;>rename_i hb<;>(try rw [hb])<;>(conv=>whnf))
  ·have h1:a.1*b.2<b.1*a.2:=by simpa using hb
   repeat first | refine W1 ?_ | refine W3 ?_ | ((first | refine W2 hT hM [] ?_ | refine W4 ?_ | refine W5 ?_ | refine W6 ?_ | refine W7 ?_ rfl);conv=>whnf)
   unfold kC;rw [if_pos h1]
  ·have h1:¬ a.1*b.2<b.1*a.2:=by simpa using hb
   clear hb
   repeat first | refine W1 ?_ | refine W3 ?_ | ((first | refine W2 hT hM [] ?_ | refine W4 ?_ | refine W5 ?_ | refine W6 ?_ | refine W7 ?_ rfl);conv=>whnf)
   (split<;>rename_i hb<;>(try rw [hb])<;>(conv=>whnf))
   ·have h2:b.1*a.2<a.1*b.2:=by simpa using hb
    repeat first | refine W1 ?_ | refine W3 ?_ | ((first | refine W2 hT hM [] ?_ | refine W4 ?_ | refine W5 ?_ | refine W6 ?_ | refine W7 ?_ rfl);conv=>whnf)
    unfold kC;rw [if_neg h1,if_pos h2]
   ·have h2:¬ b.1*a.2<a.1*b.2:=by simpa using hb
    repeat first | refine W1 ?_ | refine W3 ?_ | ((first | refine W2 hT hM [] ?_ | refine W4 ?_ | refine W5 ?_ | refine W6 ?_ | refine W7 ?_ rfl);conv=>whnf)
    unfold kC;rw [if_neg h1,if_neg h2]
def okI (f:Fr):Prop:=I64 f.1∧I64 f.2
theorem aar {f:Fr} (h:okF f=true):okI f:=by
 obtain ⟨a1,a2,a3,a4,_⟩:=dU.1 h
 unfold mst at *
 exact ⟨⟨by omega,by omega⟩,⟨by omega,by omega⟩⟩
theorem aad {a b:Fr} (h:(iE a b).2=0):okF (iE a b).1=true:=by
 unfold iE at h ⊢
 split
 ·rename_i hc;rw [if_pos hc] at h
  exact (KZ (f:=(mkF (a.1*b.2+b.1*a.2) (a.2*b.2)).1) (by rw [← h])).1
 ·rename_i hc;rw [if_neg hc] at h;cases h
theorem QC (s f:Fr) (l:List Fr):sumF s (f::l)=if (iE s f).2≠0 then ((0,0),(iE s f).2) else sumF (iE s f).1 l:=rfl
theorem Tryz.sum (l:List Fr) (hl:l.length≤1000000) (hi:∀ f∈l,okI f):Pure Tryz.prog 16 [.list (l.map enQ)] [enQ (sumF (0,1) l).1,.int .i64 (sumF (0,1) l).2]:=by
 refine Pure.of_wp hT (nt:=_) (c:=_) Tryz.func16 rfl rfl rfl rfl (by kernel_rfl) ?_
 intro w0 ok0 β0
 repeat first | refine W1 ?_ | refine W3 ?_ | ((first | refine W2 hT hM [] ?_ | refine W4 ?_ | refine W5 ?_ | refine W6 ?_ | refine W7 ?_ rfl);conv=>whnf)
 (repeat (refine ⟨by first | rfl | omega,?_⟩;conv=>whnf))
 repeat first | refine W1 ?_ | refine W3 ?_ | ((first | refine W2 hT hM [] ?_ | refine W4 ?_ | refine W5 ?_ | refine W6 ?_ | refine W7 ?_ rfl);conv=>whnf)
 refine WP.loop (α:=Nat×Fr) (fun x=>⟨[(0,.d (.list (l.map enQ))),(2,.ptr 2 0),(3,.d (.int .i64 0)),(4,.ptr 4 0),(10,.d (.list (l.map enQ))),(11,.d (.int .i64 l.length)),(12,.d (.int .i64 x.1))],
   [((2,0),some (.cell (.d (.int .i64 0)))),((2,1),some (.cell (.d (.int .i64 0)))),((4,0),some (.cell (.d (.int .i64 x.2.1)))),((4,1),some (.cell (.d (.int .i64 x.2.2))))],[2,4]⟩)
  (fun x=>x.1≤l.length∧okI x.2∧sumF (0,1) l=sumF x.2 (l.drop x.1)) (fun x=>l.length-x.1) (0,(0,1)) [(2,some 2),(4,some 4)] [] ?_ ?_ ?_
 ·((conv=>whnf);repeat (first | exact True.intro | (refine And.intro (by first | rfl | exact ⟨rfl,rfl,rfl⟩ | exact ⟨rfl,rfl,by simp⟩ | exact ⟨rfl,rfl⟩ | exact ⟨rfl,by simp⟩ | (simp;done) | (simp;omega)) ?_;conv=>whnf)))
 ·exact ⟨by simp,aar (by decide),by simp⟩
 ·rintro ⟨i,s⟩ ⟨hil,hs,hd⟩
  simp only at hil hs hd
  repeat first | refine W1 ?_ | refine W3 ?_ | ((first | refine W2 hT hM [] ?_ | refine W4 ?_ | refine W5 ?_ | refine W6 ?_ | refine W7 ?_ rfl);conv=>whnf)
  (split<;>rename_i hb<;>(try rw [hb])<;>(conv=>whnf))
  ·have hlt:i<l.length:=by simpa using hb
   repeat first | refine W1 ?_ | refine W3 ?_ | ((first | refine W2 hT hM [] ?_ | refine W4 ?_ | refine W5 ?_ | refine W6 ?_ | refine W7 ?_ rfl);conv=>whnf)
   refine ⟨by omega,_,eF hlt,rfl,?_⟩
   conv=>whnf
   repeat first | refine W1 ?_ | refine W3 ?_ | ((first | refine W2 hT hM [] ?_ | refine W4 ?_ | refine W5 ?_ | refine W6 ?_ | refine W7 ?_ rfl);conv=>whnf)
   have hf:=hi l[i] (List.getElem_mem hlt)
   refine .inl ⟨_,Tryz.add s l[i] hs.1 hs.2 hf.1 hf.2,.inl rfl,?_⟩
   conv=>whnf
   repeat first | refine W1 ?_ | refine W3 ?_ | ((first | refine W2 hT hM [] ?_ | refine W4 ?_ | refine W5 ?_ | refine W6 ?_ | refine W7 ?_ rfl);conv=>whnf)
   rw [List.drop_eq_getElem_cons hlt] at hd
   rw [QC] at hd
   (split<;>rename_i hb<;>(try rw [hb])<;>(conv=>whnf))
   ·have he:(iE s l[i]).2≠0:=by simpa using hb
    repeat first | refine W1 ?_ | refine W3 ?_ | ((first | refine W2 hT hM [] ?_ | refine W4 ?_ | refine W5 ?_ | refine W6 ?_ | refine W7 ?_ rfl);conv=>whnf)
    rw [hd,if_pos he];rfl
   ·have he:(iE s l[i]).2=0:=by simpa using hb
    rw [if_neg (by omega)] at hd
    repeat first | refine W1 ?_ | refine W3 ?_ | ((first | refine W2 hT hM [] ?_ | refine W4 ?_ | refine W5 ?_ | refine W6 ?_ | refine W7 ?_ rfl);conv=>whnf)
    refine ⟨by omega,?_⟩
    conv=>whnf
    refine ⟨(i+1,(iE s l[i]).1),[(2,some 2),(4,some 4)],[],?_,⟨by show i+1≤_;omega,aar (aad he),hd⟩,by simp;omega⟩
    ((conv=>whnf);repeat (first | exact True.intro | (refine And.intro (by first | rfl | exact ⟨rfl,rfl,rfl⟩ | exact ⟨rfl,rfl,by simp⟩ | exact ⟨rfl,rfl⟩ | exact ⟨rfl,by simp⟩ | (simp;done) | (simp;omega)) ?_;conv=>whnf)))
  ·have hge:i=l.length:=by simp at hb;omega
   subst hge
   repeat first | refine W1 ?_ | refine W3 ?_ | ((first | refine W2 hT hM [] ?_ | refine W4 ?_ | refine W5 ?_ | refine W6 ?_ | refine W7 ?_ rfl);conv=>whnf)
   rw [List.drop_length] at hd
   rw [hd];rfl
end Go.Proofs.YtepmohahglddnaaGreatDoor
