/- Plain laws of names, terms and their orders. -/
import Derived.Test.YtoifejgcmkencaaGreatOwnTAnd
import Derived.WalkKit
import Derived.Lib.Bytealg
set_option linter.unusedVariables false
set_option linter.unusedSimpArgs false
set_option linter.all false
namespace Go.Own
abbrev Str:=List UInt8
def rng (a b:Int) (c:UInt8):Bool:=decide (a≤(c.toNat:Int))&&decide ((c.toNat:Int)≤b)
def pO (c:UInt8):Bool:=rng 97 122 c
def yI (c:UInt8):Bool:=rng 65 90 c
def ou (c:UInt8):Bool:=rng 48 57 c
def hyB (c:UInt8):Bool:=rng 45 45 c
def headB (p:UInt8→Bool):Str→Bool | []=>false | c::_=>p c
def kQ (s:Str):Bool:=decide (1≤s.length)&&decide (s.length≤16)
def sIf:Str:=[105,102]
def Az:Str:=[97,110,100]
def MG:Str:=[110,111,116]
def nO (c:UInt8):Bool:=pO c||(ou c||hyB c)
def BD (c:UInt8):Bool:=yI c||(pO c||ou c)
def nameB (s:Str):Bool:=kQ s&&headB pO s&&s.all nO&&!(s==sIf)&&!(s==Az)&&!(s==MG)
theorem oI {s:Str} (h:kQ s=false∨headB pO s=false∨s.all nO=false∨s=sIf∨s=Az∨s=MG):nameB s=false:=by
 unfold nameB
 rcases h with h | h | h | rfl | rfl | rfl
 ·rw [h];rfl
 ·rw [h];simp
 ·rw [h];simp
 ·rfl
 ·rfl
 ·rfl
theorem Wn {s:Str} (h1:kQ s=true) (h2:headB pO s=true) (h3:s.all nO=true) (h4:s≠sIf) (h5:s≠Az) (h6:s≠MG):nameB s=true:=by
 unfold nameB
 rw [h1,h2,h3];simp [h4,h5,h6]
def wJ (s:Str):Bool:=kQ s&&headB yI s&&s.all BD
theorem Hz {s:Str} (h:kQ s=false∨headB yI s=false∨s.all BD=false):wJ s=false:=by
 unfold wJ
 rcases h with h | h | h<;>(rw [h];simp)
theorem Yp {s:Str} (h1:kQ s=true) (h2:headB yI s=true) (h3:s.all BD=true):wJ s=true:=by
 unfold wJ;rw [h1,h2,h3];rfl
def numAt (n:Int):Str→Int
 | []=>n
 | c::s=>numAt (10*n+((c.toNat:Int)-48)) s
def dY (s:Str):Bool:=decide (1≤s.length)&&decide (s.length≤4)&&!(headB (fun c=>decide ((c.toNat:Int)=48)) s&&decide (1<s.length))&&s.all ou
def lg (s:Str):Int:=if dY s then numAt 0 s else 0
theorem Dc:∀ (l:Str) (n:Int) (c:UInt8),numAt n (l++[c])=10*numAt n l+((c.toNat:Int)-48)
 | [],n,c=>rfl
 | d::l,n,c=>Dc l _ c
theorem yx {c:UInt8}:ou c=true↔48≤(c.toNat:Int)∧(c.toNat:Int)≤57:=by simp [ou,rng]
theorem J4:∀ {l:Str} {n:Int},0≤n→l.all ou=true→0≤numAt n l∧numAt n l<(n+1)*10 ^ l.length
 | [],n,h,_=>by simp [numAt];omega
 | c::l,n,h,hd=>by
   simp only [List.all_cons,Bool.and_eq_true] at hd
   obtain ⟨h1,h2⟩:=yx.1 hd.1
   have:=J4 (l:=l) (n:=10*n+((c.toNat:Int)-48)) (by omega) hd.2
   refine ⟨this.1,Int.lt_of_lt_of_le this.2 ?_⟩
   rw [List.length_cons,Int.pow_succ,← Int.mul_assoc,Int.mul_comm ((n+1)*10 ^ l.length) 10,← Int.mul_assoc]
   refine Int.mul_le_mul_of_nonneg_right (by omega) (Int.le_of_lt (Int.pow_pos (by decide)))
theorem zY {l:Str} (hl:l.length≤4) (hd:l.all ou=true):0≤numAt 0 l∧numAt 0 l≤9999:=by
 have h:=J4 (Int.le_refl 0) hd
 have h5:l.length=0∨l.length=1∨l.length=2∨l.length=3∨l.length=4:=by omega
 rcases h5 with e | e | e | e | e<;>rw [e] at h<;>simp at h<;>omega
theorem jS {s:Str} (h:s.length<1∨4<s.length∨(headB (fun c=>decide ((c.toNat:Int)=48)) s=true∧1<s.length)∨s.all ou=false):dY s=false:=by
 unfold dY
 rcases h with h | h | ⟨h,h'⟩ | h
 ·rw [decide_eq_false (p:=1≤s.length) (by omega)];rfl
 ·rw [decide_eq_false (p:=s.length≤4) (by omega)];simp
 ·rw [h,decide_eq_true (p:=1<s.length) h'];simp
 ·rw [h];simp
theorem O5 {s:Str} (h1:1≤s.length) (h2:s.length≤4) (h3:¬ (headB (fun c=>decide ((c.toNat:Int)=48)) s=true∧1<s.length)) (h4:s.all ou=true):dY s=true:=by
 unfold dY
 rw [decide_eq_true h1,decide_eq_true h2,h4]
 simp only [Bool.and_true,Bool.true_and,Bool.not_eq_true',Bool.and_eq_false_iff,decide_eq_false_iff_not]
 cases hh:headB (fun c=>decide ((c.toNat:Int)=48)) s
 ·exact .inl rfl
 ·exact .inr fun h=>h3 ⟨hh,h⟩
inductive Tm where
 | mk (n:Str) (ts:List Tm)
def Tm.name:Tm→Str | .mk n _=>n
def Tm.args:Tm→List Tm | .mk _ ts=>ts
def pU (vars:Bool):Nat→Tm→Bool
 | 0,_=>false
 | k+1,.mk n ts=>if ts.length≤4 then (if ts.length=0 then nameB n||dY n||(vars&&wJ n) else ts.all (pU vars k)&&nameB n) else false
def dX:Str→Str→Int
 | [],[]=>0
 | [],_::_=>-1
 | _::_,[]=>1
 | a::l,b::m=>if a<b then -1 else if b<a then 1 else dX l m
def dA (t:Tm):Int:=if t.args.length=0 then (if dY t.name then 0 else if wJ t.name then 2 else 1) else 3
mutual
def zA:Tm→Tm→Int
 | .mk n l,.mk m k=>
   if eU (dA (.mk n l)) (dA (.mk m k))≠0 then eU (dA (.mk n l)) (dA (.mk m k)) else
   if dA (.mk n l)=0 then eU (lg n) (lg m) else
   if l.length≠k.length then eU l.length k.length else
   if dX n m≠0 then dX n m else iT l k
def iT:List Tm→List Tm→Int
 | [],[]=>0
 | [],_::_=>-1
 | _::_,[]=>1
 | a::l,b::m=>if zA a b≠0 then zA a b else iT l m
end
mutual
def okT:Tm→Prop
 | .mk _ l=>l.length≤9223372036854775807∧TG l
def TG:List Tm→Prop
 | []=>True
 | t::ts=>okT t∧TG ts
end
theorem JX:∀ {l:List Tm},TG l↔∀ x∈l,okT x
 | []=>by simp [TG]
 | t::ts=>by rw [TG,JX];simp
theorem lM {t:Tm}:okT t↔t.args.length≤9223372036854775807∧∀ x∈t.args,okT x:=by
 obtain ⟨n,l⟩:=t
 rw [okT,JX];exact Iff.rfl
theorem Tm.ind {p:Tm→Prop} (h:∀ t:Tm,(∀ x∈t.args,p x)→p t) (t:Tm):p t:=
 Tm.rec (motive_1:=p) (motive_2:=fun l=>∀ x∈l,p x) (fun n l hl=>h (.mk n l) hl) (fun x hx=>by cases hx)
  (fun a l ha hl x hx=>by
   rcases List.mem_cons.1 hx with rfl | hx
   ·exact ha
   ·exact hl x hx) t
theorem Qe (a b:Tm):zA a b=if eU (dA a) (dA b)≠0 then eU (dA a) (dA b) else
  if dA a=0 then eU (lg a.name) (lg b.name) else
  if a.args.length≠b.args.length then eU a.args.length b.args.length else
  if dX a.name b.name≠0 then dX a.name b.name else iT a.args b.args:=by
 obtain ⟨n,l⟩:=a
 obtain ⟨m,k⟩:=b
 rw [zA];rfl
theorem Ot (vars:Bool) (k:Nat) (t:Tm):pU vars (k+1) t=if t.args.length≤4 then (if t.args.length=0 then nameB t.name||dY t.name||(vars&&wJ t.name) else t.args.all (pU vars k)&&nameB t.name) else false:=by
 obtain ⟨n,l⟩:=t
 rw [pU];rfl
theorem Eu {l m:List Tm} {i:Nat} (h:i<l.length) (h':i<m.length):iT (l.drop i) (m.drop i)=if zA l[i] m[i]≠0 then zA l[i] m[i] else iT (l.drop (i+1)) (m.drop (i+1)):=by
 rw [List.drop_eq_getElem_cons h,List.drop_eq_getElem_cons h',iT]
theorem sQ {l m:List Tm} {i:Nat} (h:i≤l.length) (h':i≤m.length) (he:i=l.length∨i=m.length):iT (l.drop i) (m.drop i)=eU l.length m.length:=by
 unfold eU
 rcases he with rfl | rfl
 ·rw [List.drop_length]
  rcases Nat.lt_or_ge l.length m.length with hlt | hge
  ·rw [List.drop_eq_getElem_cons hlt,iT,if_pos (by omega)]
  ·have:l.length=m.length:=by omega
   rw [this,List.drop_length,iT,if_neg (by omega),if_neg (by omega)]
 ·rw [List.drop_length]
  rcases Nat.lt_or_ge m.length l.length with hlt | hge
  ·rw [List.drop_eq_getElem_cons hlt,iT,if_neg (by omega),if_pos (by omega)]
  ·have:l.length=m.length:=by omega
   rw [← this,List.drop_length,iT,if_neg (by omega),if_neg (by omega)]
end Go.Own
namespace Go.Proofs.YtoifejgcmkencaaGreat
open Go Go.Abs Go.Own
attribute [local irreducible] WP
def enC (c:UInt8):D := .int .u8 c.toNat
theorem Tryz.lower (c:UInt8):Pure Tryz.prog 49 [enC c] [.bool (pO c)]:=by
 refine Pure.of_wp hT (nt:=_) (c:=_) Tryz.func49 rfl rfl rfl rfl (by kernel_rfl) ?_
 intro w0 ok0 β0
 repeat first | refine W1 ?_ | refine W3 ?_ | ((first | refine W2 hT hM [] ?_ | refine W4 ?_ | refine W5 ?_ | refine W6 ?_ | refine W7 ?_ rfl);conv=>whnf)
 (split<;>rename_i hb<;>(try rw [hb])<;>(conv=>whnf))<;>repeat first | refine W1 ?_ | refine W3 ?_ | ((first | refine W2 hT hM [] ?_ | refine W4 ?_ | refine W5 ?_ | refine W6 ?_ | refine W7 ?_ rfl);conv=>whnf)<;>(simp [pO,rng] at hb ⊢<;>omega)
theorem Tryz.upper (c:UInt8):Pure Tryz.prog 106 [enC c] [.bool (yI c)]:=by
 refine Pure.of_wp hT (nt:=_) (c:=_) Tryz.func106 rfl rfl rfl rfl (by kernel_rfl) ?_
 intro w0 ok0 β0
 repeat first | refine W1 ?_ | refine W3 ?_ | ((first | refine W2 hT hM [] ?_ | refine W4 ?_ | refine W5 ?_ | refine W6 ?_ | refine W7 ?_ rfl);conv=>whnf)
 (split<;>rename_i hb<;>(try rw [hb])<;>(conv=>whnf))<;>repeat first | refine W1 ?_ | refine W3 ?_ | ((first | refine W2 hT hM [] ?_ | refine W4 ?_ | refine W5 ?_ | refine W6 ?_ | refine W7 ?_ rfl);conv=>whnf)<;>(simp [yI,rng] at hb ⊢<;>omega)
theorem Tryz.digit (c:UInt8):Pure Tryz.prog 50 [enC c] [.bool (ou c)]:=by
 refine Pure.of_wp hT (nt:=_) (c:=_) Tryz.func50 rfl rfl rfl rfl (by kernel_rfl) ?_
 intro w0 ok0 β0
 repeat first | refine W1 ?_ | refine W3 ?_ | ((first | refine W2 hT hM [] ?_ | refine W4 ?_ | refine W5 ?_ | refine W6 ?_ | refine W7 ?_ rfl);conv=>whnf)
 (split<;>rename_i hb<;>(try rw [hb])<;>(conv=>whnf))<;>repeat first | refine W1 ?_ | refine W3 ?_ | ((first | refine W2 hT hM [] ?_ | refine W4 ?_ | refine W5 ?_ | refine W6 ?_ | refine W7 ?_ rfl);conv=>whnf)<;>(simp [ou,rng] at hb ⊢<;>omega)
theorem fK {s:Str} {i:Nat} (h:i<s.length):s[((i:Int)).toNat]?=some s[i]:=by simp [h]
theorem qY {s:Str} {p:UInt8→Bool} {i:Nat} (h:i<s.length) (ht:(s.take i).all p=true) (hp:p s[i]=true):(s.take (i+1)).all p=true:=by
 rw [List.take_succ_eq_append_getElem h,List.all_append,ht];simp [hp]
theorem tu {s:Str} {p:UInt8→Bool} {i:Nat} (h:i<s.length) (hp:p s[i]=false):s.all p=false:=by
 rw [List.all_eq_false];exact ⟨_,List.getElem_mem h,by simp [hp]⟩
theorem IG {s:Str} (h:decide ((s.length:Int)<1)=true):kQ s=false:=by
 simp at h;simp only [kQ];rw [decide_eq_false (by omega)];rfl
theorem IE {s:Str} (h:decide ((s.length:Int)>16)=true):kQ s=false:=by
 simp only [decide_eq_true_eq] at h;simp only [kQ];rw [decide_eq_false (p:=s.length≤16) (by omega)];simp
theorem Nj {s:Str} (h:decide ((s.length:Int)<1)=false) (h':decide ((s.length:Int)>16)=false):kQ s=true:=by
 simp only [decide_eq_false_iff_not] at h h';simp only [kQ];rw [decide_eq_true (by omega),decide_eq_true (by omega)];rfl
theorem Tryz.MZ (s:Str):Pure Tryz.prog 23 [.str s] [.bool (nameB s)]:=by
 refine Pure.of_wp hT (nt:=_) (c:=_) Tryz.func23 rfl rfl rfl rfl (by kernel_rfl) ?_
 intro w0 ok0 β0
 repeat first | refine W1 ?_ | refine W3 ?_ | ((first | refine W2 hT hM [] ?_ | refine W4 ?_ | refine W5 ?_ | refine W6 ?_ | refine W7 ?_ rfl);conv=>whnf)
 (split<;>rename_i hb<;>(try rw [hb])<;>(conv=>whnf))
 ·repeat first | refine W1 ?_ | refine W3 ?_ | ((first | refine W2 hT hM [] ?_ | refine W4 ?_ | refine W5 ?_ | refine W6 ?_ | refine W7 ?_ rfl);conv=>whnf)
  rw [oI (.inl (IG hb))]
 (split<;>rename_i hb<;>(try rw [hb])<;>(conv=>whnf))
 ·repeat first | refine W1 ?_ | refine W3 ?_ | ((first | refine W2 hT hM [] ?_ | refine W4 ?_ | refine W5 ?_ | refine W6 ?_ | refine W7 ?_ rfl);conv=>whnf)
  rw [oI (.inl (IE hb))]
 have hlen:=Nj (by assumption) hb
 clear hb
 cases s with
 | nil=>simp [kQ] at hlen
 | cons c s=>
 refine ⟨by omega,c,rfl,?_⟩
 conv=>whnf
 refine .inl ⟨_,Tryz.lower c,.inl rfl,?_⟩
 conv=>whnf
 cases hc:pO c with
 | false=>
   conv=>whnf
   repeat first | refine W1 ?_ | refine W3 ?_ | ((first | refine W2 hT hM [] ?_ | refine W4 ?_ | refine W5 ?_ | refine W6 ?_ | refine W7 ?_ rfl);conv=>whnf)
   rw [oI (.inr (.inl (show headB pO (c::s)=false from hc)))]
 | true=>
 conv=>whnf
 (split<;>rename_i hb<;>(try rw [hb])<;>(conv=>whnf))
 ·repeat first | refine W1 ?_ | refine W3 ?_ | ((first | refine W2 hT hM [] ?_ | refine W4 ?_ | refine W5 ?_ | refine W6 ?_ | refine W7 ?_ rfl);conv=>whnf)
  rw [oI (.inr (.inr (.inr (.inl (by simpa [sIf] using hb)))))]
 have e1:c::s≠sIf:=by simpa [sIf] using hb
 clear hb
 (split<;>rename_i hb<;>(try rw [hb])<;>(conv=>whnf))
 ·repeat first | refine W1 ?_ | refine W3 ?_ | ((first | refine W2 hT hM [] ?_ | refine W4 ?_ | refine W5 ?_ | refine W6 ?_ | refine W7 ?_ rfl);conv=>whnf)
  rw [oI (.inr (.inr (.inr (.inr (.inl (by simpa [Az] using hb))))))]
 have e2:c::s≠Az:=by simpa [Az] using hb
 clear hb
 repeat first | refine W1 ?_ | refine W3 ?_ | ((first | refine W2 hT hM [] ?_ | refine W4 ?_ | refine W5 ?_ | refine W6 ?_ | refine W7 ?_ rfl);conv=>whnf)
 (split<;>rename_i hb<;>(try rw [hb])<;>(conv=>whnf))
 ·repeat first | refine W1 ?_ | refine W3 ?_ | ((first | refine W2 hT hM [] ?_ | refine W4 ?_ | refine W5 ?_ | refine W6 ?_ | refine W7 ?_ rfl);conv=>whnf)
  rw [oI (.inr (.inr (.inr (.inr (.inr (by simpa [MG] using hb))))))]
 have e3:c::s≠MG:=by simpa [MG] using hb
 clear hb
 have hh:headB pO (c::s)=true:=hc
 generalize c::s=s at *
 have hl16:s.length≤16:=by simp [kQ] at hlen;omega
 repeat first | refine W1 ?_ | refine W3 ?_ | ((first | refine W2 hT hM [] ?_ | refine W4 ?_ | refine W5 ?_ | refine W6 ?_ | refine W7 ?_ rfl);conv=>whnf)
 refine WP.loop (α:=Nat) (fun i=>⟨[(0,.d (.str s)),(31,.d (.int .i64 s.length)),(32,.d (.int .i64 i))],[],[]⟩) (fun i=>i≤s.length∧(s.take i).all nO=true) (fun i=>s.length-i) 0 [] [] ?_ ?_ ?_
 ·((conv=>whnf);repeat (first | exact True.intro | (refine And.intro (by first | rfl | exact ⟨rfl,rfl,rfl⟩ | exact ⟨rfl,rfl,by simp⟩ | exact ⟨rfl,rfl⟩ | exact ⟨rfl,by simp⟩ | (simp;done) | (simp;omega)) ?_;conv=>whnf)))
 ·simp
 ·rintro i ⟨hi,ht⟩
  repeat first | refine W1 ?_ | refine W3 ?_ | ((first | refine W2 hT hM [] ?_ | refine W4 ?_ | refine W5 ?_ | refine W6 ?_ | refine W7 ?_ rfl);conv=>whnf)
  (split<;>rename_i hb<;>(try rw [hb])<;>(conv=>whnf))
  ·have hlt:i<s.length:=by simpa using hb
   clear hb
   repeat first | refine W1 ?_ | refine W3 ?_ | ((first | refine W2 hT hM [] ?_ | refine W4 ?_ | refine W5 ?_ | refine W6 ?_ | refine W7 ?_ rfl);conv=>whnf)
   refine ⟨by omega,_,fK hlt,?_⟩
   conv=>whnf
   refine .inl ⟨_,Tryz.lower s[i],.inl rfl,?_⟩
   conv=>whnf
   have fin:nO s[i]=true→_:=fun hn=>qY hlt ht hn
   cases h1:pO s[i] with
   | true=>
     conv=>whnf
     repeat first | refine W1 ?_ | refine W3 ?_ | ((first | refine W2 hT hM [] ?_ | refine W4 ?_ | refine W5 ?_ | refine W6 ?_ | refine W7 ?_ rfl);conv=>whnf)
     refine ⟨by omega,?_⟩
     conv=>whnf
     refine ⟨i+1,[],[],?_,⟨by omega,fin (by simp [nO,h1])⟩,by omega⟩
     ((conv=>whnf);repeat (first | exact True.intro | (refine And.intro (by first | rfl | exact ⟨rfl,rfl,rfl⟩ | exact ⟨rfl,rfl,by simp⟩ | exact ⟨rfl,rfl⟩ | exact ⟨rfl,by simp⟩ | (simp;done) | (simp;omega)) ?_;conv=>whnf)))
   | false=>
     conv=>whnf
     refine ⟨by omega,_,fK hlt,?_⟩
     conv=>whnf
     refine .inl ⟨_,Tryz.digit s[i],.inl rfl,?_⟩
     conv=>whnf
     cases h2:ou s[i] with
     | true=>
       conv=>whnf
       repeat first | refine W1 ?_ | refine W3 ?_ | ((first | refine W2 hT hM [] ?_ | refine W4 ?_ | refine W5 ?_ | refine W6 ?_ | refine W7 ?_ rfl);conv=>whnf)
       refine ⟨by omega,?_⟩
       conv=>whnf
       refine ⟨i+1,[],[],?_,⟨by omega,fin (by simp [nO,h2])⟩,by omega⟩
       ((conv=>whnf);repeat (first | exact True.intro | (refine And.intro (by first | rfl | exact ⟨rfl,rfl,rfl⟩ | exact ⟨rfl,rfl,by simp⟩ | exact ⟨rfl,rfl⟩ | exact ⟨rfl,by simp⟩ | (simp;done) | (simp;omega)) ?_;conv=>whnf)))
     | false=>
       conv=>whnf
       refine ⟨by omega,_,fK hlt,?_⟩
       conv=>whnf
       repeat first | refine W1 ?_ | refine W3 ?_ | ((first | refine W2 hT hM [] ?_ | refine W4 ?_ | refine W5 ?_ | refine W6 ?_ | refine W7 ?_ rfl);conv=>whnf)
       (split<;>rename_i hb<;>(try rw [hb])<;>(conv=>whnf))
       ·repeat first | refine W1 ?_ | refine W3 ?_ | ((first | refine W2 hT hM [] ?_ | refine W4 ?_ | refine W5 ?_ | refine W6 ?_ | refine W7 ?_ rfl);conv=>whnf)
        rw [oI (.inr (.inr (.inl (tu hlt (by simp [nO,h1,h2,hyB,rng] at hb ⊢;omega)))))]
       ·repeat first | refine W1 ?_ | refine W3 ?_ | ((first | refine W2 hT hM [] ?_ | refine W4 ?_ | refine W5 ?_ | refine W6 ?_ | refine W7 ?_ rfl);conv=>whnf)
        refine ⟨by omega,?_⟩
        conv=>whnf
        refine ⟨i+1,[],[],?_,⟨by omega,fin (by simp [nO,h1,h2,hyB,rng] at hb ⊢;omega)⟩,by omega⟩
        ((conv=>whnf);repeat (first | exact True.intro | (refine And.intro (by first | rfl | exact ⟨rfl,rfl,rfl⟩ | exact ⟨rfl,rfl,by simp⟩ | exact ⟨rfl,rfl⟩ | exact ⟨rfl,by simp⟩ | (simp;done) | (simp;omega)) ?_;conv=>whnf)))
  ·have:i=s.length:=by simp at hb;omega
   subst this
   rw [List.take_length] at ht
   repeat first | refine W1 ?_ | refine W3 ?_ | ((first | refine W2 hT hM [] ?_ | refine W4 ?_ | refine W5 ?_ | refine W6 ?_ | refine W7 ?_ rfl);conv=>whnf)
   rw [Wn hlen hh ht e1 e2 e3]
end Go.Proofs.YtoifejgcmkencaaGreat
namespace Go.Proofs.YtoifejgcmkencaaGreat
open Go Go.Abs Go.Own
attribute [local irreducible] WP
theorem wrap_u8 {n:Int} (h:0≤n) (h':n<256):IntKind.u8.wrap n=n:=by
 unfold IntKind.wrap
 simp [IntKind.bits,IntKind.signed]
 omega
theorem JC {s:Str} (h:1≤s.length):∃ c t,s=c::t:=by
 cases s with
 | nil=>simp at h
 | cons c t=>exact ⟨c,t,rfl⟩
theorem Df {s:Str} {i:Nat} (h:i<s.length):numAt 0 (s.take (i+1))=10*numAt 0 (s.take i)+((s[i].toNat:Int)-48):=by
 rw [List.take_succ_eq_append_getElem h,Dc]
theorem rP {s:Str} {i:Nat} (hs:s.length≤4) (hd:(s.take i).all ou=true):0≤numAt 0 (s.take i)∧numAt 0 (s.take i)≤9999:=zY (by simp;omega) hd
theorem Tryz.J3 (s:Str):Pure Tryz.prog 81 [.str s] [.int .i64 (lg s),.bool (dY s)]:=by
 refine Pure.of_wp hT (nt:=_) (c:=_) Tryz.func81 rfl rfl rfl rfl (by kernel_rfl) ?_
 intro w0 ok0 β0
 have no:dY s=false→[D.int .i64 0,.bool false]=[D.int .i64 (lg s),.bool (dY s)]:=fun h=>by unfold lg;rw [h];rfl
 have yes:dY s=true→[D.int .i64 (numAt 0 s),.bool true]=[D.int .i64 (lg s),.bool (dY s)]:=fun h=>by unfold lg;rw [h];rfl
 repeat first | refine W1 ?_ | refine W3 ?_ | ((first | refine W2 hT hM [] ?_ | refine W4 ?_ | refine W5 ?_ | refine W6 ?_ | refine W7 ?_ rfl);conv=>whnf)
 (split<;>rename_i hb<;>(try rw [hb])<;>(conv=>whnf))
 ·repeat first | refine W1 ?_ | refine W3 ?_ | ((first | refine W2 hT hM [] ?_ | refine W4 ?_ | refine W5 ?_ | refine W6 ?_ | refine W7 ?_ rfl);conv=>whnf)
  exact no (jS (.inl (by simp only [decide_eq_true_eq] at hb;omega)))
 (split<;>rename_i hb<;>(try rw [hb])<;>(conv=>whnf))
 ·repeat first | refine W1 ?_ | refine W3 ?_ | ((first | refine W2 hT hM [] ?_ | refine W4 ?_ | refine W5 ?_ | refine W6 ?_ | refine W7 ?_ rfl);conv=>whnf)
  exact no (jS (.inr (.inl (by simp only [decide_eq_true_eq] at hb;omega))))
 rename_i _ h1 _
 have hl1:1≤s.length:=by simp only [decide_eq_false_iff_not] at h1;omega
 have hl4:s.length≤4:=by simp only [decide_eq_false_iff_not] at hb;omega
 clear h1 hb
 obtain ⟨c,t,hs⟩:=JC hl1
 by_cases h3:headB (fun c=>decide ((c.toNat:Int)=48)) s=true∧1<s.length
 ·rw [decide_eq_true (p:=(s.length:Int)>1) (by omega)]
  conv=>whnf
  refine ⟨by omega,c,by rw [hs];rfl,?_⟩
  conv=>whnf
  rw [show ((c.toNat:Int)==48)=true by have:=h3.1;rw [hs] at this;simpa [headB] using this]
  conv=>whnf
  repeat first | refine W1 ?_ | refine W3 ?_ | ((first | refine W2 hT hM [] ?_ | refine W4 ?_ | refine W5 ?_ | refine W6 ?_ | refine W7 ?_ rfl);conv=>whnf)
  exact no (jS (.inr (.inr (.inl h3))))
 (split<;>rename_i hb<;>(try rw [hb])<;>(conv=>whnf))<;>first
  | (refine ⟨by omega,c,by rw [hs];rfl,?_⟩
     conv=>whnf
     rw [show ((c.toNat:Int)==48)=false by
      simp only [decide_eq_true_eq] at hb
      have h4:¬ headB (fun c=>decide ((c.toNat:Int)=48)) s=true:=fun h=>h3 ⟨h,by omega⟩
      rw [hs] at h4;simpa [headB] using h4]
     conv=>whnf)
  | skip
 all_goals
  repeat first | refine W1 ?_ | refine W3 ?_ | ((first | refine W2 hT hM [] ?_ | refine W4 ?_ | refine W5 ?_ | refine W6 ?_ | refine W7 ?_ rfl);conv=>whnf)
  refine WP.loop (α:=Nat) (fun i=>⟨[(0,.d (.str s)),(4,.d (.int .i64 (numAt 0 (s.take i)))),(25,.d (.int .i64 s.length)),(26,.d (.int .i64 i))],[],[]⟩) (fun i=>i≤s.length∧(s.take i).all ou=true) (fun i=>s.length-i) 0 [] [] ?_ ?_ ?_
  ·((conv=>whnf);repeat (first | exact True.intro | (refine And.intro (by first | rfl | exact ⟨rfl,rfl,rfl⟩ | exact ⟨rfl,rfl,by simp⟩ | exact ⟨rfl,rfl⟩ | exact ⟨rfl,by simp⟩ | (simp;done) | (simp;omega)) ?_;conv=>whnf)))
  ·simp
  ·rintro i ⟨hi,ht⟩
   repeat first | refine W1 ?_ | refine W3 ?_ | ((first | refine W2 hT hM [] ?_ | refine W4 ?_ | refine W5 ?_ | refine W6 ?_ | refine W7 ?_ rfl);conv=>whnf)
   (split<;>rename_i hb<;>(try rw [hb])<;>(conv=>whnf))
   ·have hlt:i<s.length:=by simp only [decide_eq_true_eq] at hb;omega
    clear hb
    repeat first | refine W1 ?_ | refine W3 ?_ | ((first | refine W2 hT hM [] ?_ | refine W4 ?_ | refine W5 ?_ | refine W6 ?_ | refine W7 ?_ rfl);conv=>whnf)
    refine ⟨by omega,_,fK hlt,?_⟩
    conv=>whnf
    refine .inl ⟨_,Tryz.digit s[i],.inl rfl,?_⟩
    conv=>whnf
    cases h1:ou s[i] with
    | true=>
      obtain ⟨d1,d2⟩:=yx.1 h1
      obtain ⟨n1,n2⟩:=rP hl4 ht
      have ht':=qY hlt ht h1
      obtain ⟨n3,n4⟩:=rP hl4 ht'
      have hn:=Df hlt
      conv=>whnf
      repeat first | refine W1 ?_ | refine W3 ?_ | ((first | refine W2 hT hM [] ?_ | refine W4 ?_ | refine W5 ?_ | refine W6 ?_ | refine W7 ?_ rfl);conv=>whnf)
      refine ⟨by omega,?_⟩
      conv=>whnf
      refine ⟨by omega,_,fK hlt,?_⟩
      conv=>whnf
      rw [wrap_u8 (by omega) (by omega)]
      refine ⟨by omega,?_⟩
      conv=>whnf
      refine ⟨by omega,?_⟩
      conv=>whnf
      repeat first | refine W1 ?_ | refine W3 ?_ | ((first | refine W2 hT hM [] ?_ | refine W4 ?_ | refine W5 ?_ | refine W6 ?_ | refine W7 ?_ rfl);conv=>whnf)
      refine ⟨by omega,?_⟩
      conv=>whnf
      refine ⟨i+1,[],[],?_,⟨by omega,ht'⟩,by omega⟩
      rw [hn]
      ((conv=>whnf);repeat (first | exact True.intro | (refine And.intro (by first | rfl | exact ⟨rfl,rfl,rfl⟩ | exact ⟨rfl,rfl,by simp⟩ | exact ⟨rfl,rfl⟩ | exact ⟨rfl,by simp⟩ | (simp;done) | (simp;omega)) ?_;conv=>whnf)))
    | false=>
      conv=>whnf
      repeat first | refine W1 ?_ | refine W3 ?_ | ((first | refine W2 hT hM [] ?_ | refine W4 ?_ | refine W5 ?_ | refine W6 ?_ | refine W7 ?_ rfl);conv=>whnf)
      exact no (jS (.inr (.inr (.inr (tu hlt h1)))))
   ·have:i=s.length:=by simp only [decide_eq_false_iff_not] at hb;omega
    subst this
    rw [List.take_length] at ht
    rw [List.take_length]
    repeat first | refine W1 ?_ | refine W3 ?_ | ((first | refine W2 hT hM [] ?_ | refine W4 ?_ | refine W5 ?_ | refine W6 ?_ | refine W7 ?_ rfl);conv=>whnf)
    exact yes (O5 hl1 hl4 h3 ht)
theorem Tryz.Kz (s:Str):Pure Tryz.prog 79 [.str s] [.bool (dY s)]:=by
 refine Pure.of_wp hT (nt:=_) (c:=_) Tryz.func79 rfl rfl rfl rfl (by kernel_rfl) ?_
 intro w0 ok0 β0
 repeat first | refine W1 ?_ | refine W3 ?_ | ((first | refine W2 hT hM [] ?_ | refine W4 ?_ | refine W5 ?_ | refine W6 ?_ | refine W7 ?_ rfl);conv=>whnf)
 refine .inl ⟨_,Tryz.J3 s,.inl rfl,?_⟩
 conv=>whnf
 repeat first | refine W1 ?_ | refine W3 ?_ | ((first | refine W2 hT hM [] ?_ | refine W4 ?_ | refine W5 ?_ | refine W6 ?_ | refine W7 ?_ rfl);conv=>whnf)
theorem Tryz.Ou (s:Str):Pure Tryz.prog 53 [.str s] [.int .i64 (lg s)]:=by
 refine Pure.of_wp hT (nt:=_) (c:=_) Tryz.func53 rfl rfl rfl rfl (by kernel_rfl) ?_
 intro w0 ok0 β0
 repeat first | refine W1 ?_ | refine W3 ?_ | ((first | refine W2 hT hM [] ?_ | refine W4 ?_ | refine W5 ?_ | refine W6 ?_ | refine W7 ?_ rfl);conv=>whnf)
 refine .inl ⟨_,Tryz.J3 s,.inl rfl,?_⟩
 conv=>whnf
 repeat first | refine W1 ?_ | refine W3 ?_ | ((first | refine W2 hT hM [] ?_ | refine W4 ?_ | refine W5 ?_ | refine W6 ?_ | refine W7 ?_ rfl);conv=>whnf)
theorem Tryz.BA (s:Str):Pure Tryz.prog 80 [.str s] [.bool (wJ s)]:=by
 refine Pure.of_wp hT (nt:=_) (c:=_) Tryz.func80 rfl rfl rfl rfl (by kernel_rfl) ?_
 intro w0 ok0 β0
 repeat first | refine W1 ?_ | refine W3 ?_ | ((first | refine W2 hT hM [] ?_ | refine W4 ?_ | refine W5 ?_ | refine W6 ?_ | refine W7 ?_ rfl);conv=>whnf)
 (split<;>rename_i hb<;>(try rw [hb])<;>(conv=>whnf))
 ·repeat first | refine W1 ?_ | refine W3 ?_ | ((first | refine W2 hT hM [] ?_ | refine W4 ?_ | refine W5 ?_ | refine W6 ?_ | refine W7 ?_ rfl);conv=>whnf)
  rw [Hz (.inl (IG hb))]
 (split<;>rename_i hb<;>(try rw [hb])<;>(conv=>whnf))
 ·repeat first | refine W1 ?_ | refine W3 ?_ | ((first | refine W2 hT hM [] ?_ | refine W4 ?_ | refine W5 ?_ | refine W6 ?_ | refine W7 ?_ rfl);conv=>whnf)
  rw [Hz (.inl (IE hb))]
 have hlen:=Nj (by assumption) hb
 clear hb
 cases s with
 | nil=>simp [kQ] at hlen
 | cons c s=>
 refine ⟨by omega,c,rfl,?_⟩
 conv=>whnf
 refine .inl ⟨_,Tryz.upper c,.inl rfl,?_⟩
 conv=>whnf
 cases hc:yI c with
 | false=>
   conv=>whnf
   repeat first | refine W1 ?_ | refine W3 ?_ | ((first | refine W2 hT hM [] ?_ | refine W4 ?_ | refine W5 ?_ | refine W6 ?_ | refine W7 ?_ rfl);conv=>whnf)
   rw [Hz (.inr (.inl (show headB yI (c::s)=false from hc)))]
 | true=>
 conv=>whnf
 have hh:headB yI (c::s)=true:=hc
 generalize c::s=s at *
 have hl16:s.length≤16:=by simp [kQ] at hlen;omega
 repeat first | refine W1 ?_ | refine W3 ?_ | ((first | refine W2 hT hM [] ?_ | refine W4 ?_ | refine W5 ?_ | refine W6 ?_ | refine W7 ?_ rfl);conv=>whnf)
 refine WP.loop (α:=Nat) (fun i=>⟨[(0,.d (.str s)),(19,.d (.int .i64 s.length)),(20,.d (.int .i64 i))],[],[]⟩) (fun i=>i≤s.length∧(s.take i).all BD=true) (fun i=>s.length-i) 0 [] [] ?_ ?_ ?_
 ·((conv=>whnf);repeat (first | exact True.intro | (refine And.intro (by first | rfl | exact ⟨rfl,rfl,rfl⟩ | exact ⟨rfl,rfl,by simp⟩ | exact ⟨rfl,rfl⟩ | exact ⟨rfl,by simp⟩ | (simp;done) | (simp;omega)) ?_;conv=>whnf)))
 ·simp
 ·rintro i ⟨hi,ht⟩
  repeat first | refine W1 ?_ | refine W3 ?_ | ((first | refine W2 hT hM [] ?_ | refine W4 ?_ | refine W5 ?_ | refine W6 ?_ | refine W7 ?_ rfl);conv=>whnf)
  (split<;>rename_i hb<;>(try rw [hb])<;>(conv=>whnf))
  ·have hlt:i<s.length:=by simpa using hb
   clear hb
   repeat first | refine W1 ?_ | refine W3 ?_ | ((first | refine W2 hT hM [] ?_ | refine W4 ?_ | refine W5 ?_ | refine W6 ?_ | refine W7 ?_ rfl);conv=>whnf)
   refine ⟨by omega,_,fK hlt,?_⟩
   conv=>whnf
   refine .inl ⟨_,Tryz.lower s[i],.inl rfl,?_⟩
   conv=>whnf
   have fin:BD s[i]=true→_:=fun hn=>qY hlt ht hn
   cases h1:pO s[i] with
   | true=>
     conv=>whnf
     repeat first | refine W1 ?_ | refine W3 ?_ | ((first | refine W2 hT hM [] ?_ | refine W4 ?_ | refine W5 ?_ | refine W6 ?_ | refine W7 ?_ rfl);conv=>whnf)
     refine ⟨by omega,?_⟩
     conv=>whnf
     refine ⟨i+1,[],[],?_,⟨by omega,fin (by simp [BD,h1])⟩,by omega⟩
     ((conv=>whnf);repeat (first | exact True.intro | (refine And.intro (by first | rfl | exact ⟨rfl,rfl,rfl⟩ | exact ⟨rfl,rfl,by simp⟩ | exact ⟨rfl,rfl⟩ | exact ⟨rfl,by simp⟩ | (simp;done) | (simp;omega)) ?_;conv=>whnf)))
   | false=>
     conv=>whnf
     refine ⟨by omega,_,fK hlt,?_⟩
     conv=>whnf
     refine .inl ⟨_,Tryz.upper s[i],.inl rfl,?_⟩
     conv=>whnf
     cases h2:yI s[i] with
     | true=>
       conv=>whnf
       repeat first | refine W1 ?_ | refine W3 ?_ | ((first | refine W2 hT hM [] ?_ | refine W4 ?_ | refine W5 ?_ | refine W6 ?_ | refine W7 ?_ rfl);conv=>whnf)
       refine ⟨by omega,?_⟩
       conv=>whnf
       refine ⟨i+1,[],[],?_,⟨by omega,fin (by simp [BD,h2])⟩,by omega⟩
       ((conv=>whnf);repeat (first | exact True.intro | (refine And.intro (by first | rfl | exact ⟨rfl,rfl,rfl⟩ | exact ⟨rfl,rfl,by simp⟩ | exact ⟨rfl,rfl⟩ | exact ⟨rfl,by simp⟩ | (simp;done) | (simp;omega)) ?_;conv=>whnf)))
     | false=>
       conv=>whnf
       refine ⟨by omega,_,fK hlt,?_⟩
       conv=>whnf
       refine .inl ⟨_,Tryz.digit s[i],.inl rfl,?_⟩
       conv=>whnf
       cases h3:ou s[i] with
       | true=>
         conv=>whnf
         repeat first | refine W1 ?_ | refine W3 ?_ | ((first | refine W2 hT hM [] ?_ | refine W4 ?_ | refine W5 ?_ | refine W6 ?_ | refine W7 ?_ rfl);conv=>whnf)
         refine ⟨by omega,?_⟩
         conv=>whnf
         refine ⟨i+1,[],[],?_,⟨by omega,fin (by simp [BD,h3])⟩,by omega⟩
         ((conv=>whnf);repeat (first | exact True.intro | (refine And.intro (by first | rfl | exact ⟨rfl,rfl,rfl⟩ | exact ⟨rfl,rfl,by simp⟩ | exact ⟨rfl,rfl⟩ | exact ⟨rfl,by simp⟩ | (simp;done) | (simp;omega)) ?_;conv=>whnf)))
       | false=>
         conv=>whnf
         repeat first | refine W1 ?_ | refine W3 ?_ | ((first | refine W2 hT hM [] ?_ | refine W4 ?_ | refine W5 ?_ | refine W6 ?_ | refine W7 ?_ rfl);conv=>whnf)
         rw [Hz (.inr (.inr (tu hlt (by simp [BD,h1,h2,h3]))))]
  ·have:i=s.length:=by simp at hb;omega
   subst this
   rw [List.take_length] at ht
   repeat first | refine W1 ?_ | refine W3 ?_ | ((first | refine W2 hT hM [] ?_ | refine W4 ?_ | refine W5 ?_ | refine W6 ?_ | refine W7 ?_ rfl);conv=>whnf)
   rw [Yp hlen hh ht]
end Go.Proofs.YtoifejgcmkencaaGreat
namespace Go.Proofs.YtoifejgcmkencaaGreat
open Go Go.Abs Go.Own
attribute [local irreducible] WP
abbrev Sp:=Int×Int
def ac0 (p:Sp):D := .agg [.int .u8 p.1,.int .u8 p.2]
def jA (c:UInt8) (l:List Sp):Bool:=l.any fun p=>rng p.1 p.2 c
theorem Tryz.inC (c:UInt8) (l:List Sp) (hl:l.length≤1000000):Pure Tryz.prog 107 [enC c,.list (l.map ac0)] [.bool (jA c l)]:=by
 refine Pure.of_wp hT (nt:=_) (c:=_) Tryz.func107 rfl rfl rfl rfl (by kernel_rfl) ?_
 intro w0 ok0 β0
 repeat first | refine W1 ?_ | refine W3 ?_ | ((first | refine W2 hT hM [] ?_ | refine W4 ?_ | refine W5 ?_ | refine W6 ?_ | refine W7 ?_ rfl);conv=>whnf)
 refine WP.loop (α:=Nat) (fun i=>⟨[(0,.d (enC c)),(7,.d (.list (l.map ac0))),(8,.d (.int .i64 l.length)),(9,.d (.int .i64 i))],[],[]⟩) (fun i=>i≤l.length∧jA c (l.take i)=false) (fun i=>l.length-i) 0 [] [] ?_ ?_ ?_
 ·((conv=>whnf);repeat (first | exact True.intro | (refine And.intro (by first | rfl | exact ⟨rfl,rfl,rfl⟩ | exact ⟨rfl,rfl,by simp⟩ | exact ⟨rfl,rfl⟩ | exact ⟨rfl,by simp⟩ | (simp;done) | (simp;omega)) ?_;conv=>whnf)))
 ·simp [jA]
 ·rintro i ⟨hi,ht⟩
  repeat first | refine W1 ?_ | refine W3 ?_ | ((first | refine W2 hT hM [] ?_ | refine W4 ?_ | refine W5 ?_ | refine W6 ?_ | refine W7 ?_ rfl);conv=>whnf)
  (split<;>rename_i hb<;>(try rw [hb])<;>(conv=>whnf))
  ·have hlt:i<l.length:=by simpa using hb
   clear hb
   have hn:jA c (l.take (i+1))=rng l[i].1 l[i].2 c:=by
    unfold jA at ht ⊢
    rw [List.take_succ_eq_append_getElem hlt,List.any_append,ht];simp
   repeat first | refine W1 ?_ | refine W3 ?_ | ((first | refine W2 hT hM [] ?_ | refine W4 ?_ | refine W5 ?_ | refine W6 ?_ | refine W7 ?_ rfl);conv=>whnf)
   refine ⟨by omega,_,bC hlt,rfl,?_⟩
   conv=>whnf
   repeat first | refine W1 ?_ | refine W3 ?_ | ((first | refine W2 hT hM [] ?_ | refine W4 ?_ | refine W5 ?_ | refine W6 ?_ | refine W7 ?_ rfl);conv=>whnf)
   cases hc:rng l[i].1 l[i].2 c with
   | true=>
     have hc':=hc
     simp only [rng,Bool.and_eq_true,decide_eq_true_eq] at hc'
     rw [decide_eq_true (p:=(c.toNat:Int)≥l[i].1) hc'.1]
     conv=>whnf
     rw [decide_eq_true (p:=(c.toNat:Int)≤l[i].2) hc'.2]
     conv=>whnf
     repeat first | refine W1 ?_ | refine W3 ?_ | ((first | refine W2 hT hM [] ?_ | refine W4 ?_ | refine W5 ?_ | refine W6 ?_ | refine W7 ?_ rfl);conv=>whnf)
     have:jA c l=true:=by
      unfold jA;rw [List.any_eq_true];exact ⟨_,List.getElem_mem hlt,hc⟩
     rw [this]
   | false=>
     rw [hc] at hn
     (split<;>rename_i hb<;>(try rw [hb])<;>(conv=>whnf))
     ·have:decide ((c.toNat:Int)≤l[i].2)=false:=by
       unfold rng at hc
       rw [show decide (l[i].1≤(c.toNat:Int))=true from hb] at hc
       simpa using hc
      rw [this]
      conv=>whnf
      repeat first | refine W1 ?_ | refine W3 ?_ | ((first | refine W2 hT hM [] ?_ | refine W4 ?_ | refine W5 ?_ | refine W6 ?_ | refine W7 ?_ rfl);conv=>whnf)
      refine ⟨by omega,?_⟩
      conv=>whnf
      refine ⟨i+1,[],[],?_,⟨by omega,hn⟩,by omega⟩
      ((conv=>whnf);repeat (first | exact True.intro | (refine And.intro (by first | rfl | exact ⟨rfl,rfl,rfl⟩ | exact ⟨rfl,rfl,by simp⟩ | exact ⟨rfl,rfl⟩ | exact ⟨rfl,by simp⟩ | (simp;done) | (simp;omega)) ?_;conv=>whnf)))
     ·repeat first | refine W1 ?_ | refine W3 ?_ | ((first | refine W2 hT hM [] ?_ | refine W4 ?_ | refine W5 ?_ | refine W6 ?_ | refine W7 ?_ rfl);conv=>whnf)
      refine ⟨by omega,?_⟩
      conv=>whnf
      refine ⟨i+1,[],[],?_,⟨by omega,hn⟩,by omega⟩
      ((conv=>whnf);repeat (first | exact True.intro | (refine And.intro (by first | rfl | exact ⟨rfl,rfl,rfl⟩ | exact ⟨rfl,rfl,by simp⟩ | exact ⟨rfl,rfl⟩ | exact ⟨rfl,by simp⟩ | (simp;done) | (simp;omega)) ?_;conv=>whnf)))
  ·have:i=l.length:=by simp at hb;omega
   subst this
   rw [List.take_length] at ht
   repeat first | refine W1 ?_ | refine W3 ?_ | ((first | refine W2 hT hM [] ?_ | refine W4 ?_ | refine W5 ?_ | refine W6 ?_ | refine W7 ?_ rfl);conv=>whnf)
   rw [ht]
def Yx (a b c:Sp):D := .agg [.int .u8 a.1,.int .u8 a.2,.int .u8 b.1,.int .u8 b.2,.int .u8 c.1,.int .u8 c.2]
def spB (x y z:Sp) (s:Str):Bool:=kQ s&&headB (fun c=>jA c [x]) s&&s.all (fun c=>jA c [x,y,z])
theorem Oz {x y z:Sp} {s:Str} (h:kQ s=false∨headB (fun c=>jA c [x]) s=false∨s.all (fun c=>jA c [x,y,z])=false):spB x y z s=false:=by
 unfold spB
 rcases h with h | h | h<;>(rw [h];simp)
theorem abj {x y z:Sp} {s:Str} (h1:kQ s=true) (h2:headB (fun c=>jA c [x]) s=true) (h3:s.all (fun c=>jA c [x,y,z])=true):spB x y z s=true:=by
 unfold spB;rw [h1,h2,h3];rfl
theorem Tryz.spelled (s:Str) (x y z:Sp):Pure Tryz.prog 82 [.str s,Yx x y z] [.bool (spB x y z s)]:=by
 refine Pure.of_wp hT (nt:=_) (c:=_) Tryz.func82 rfl rfl rfl rfl (by kernel_rfl) ?_
 intro w0 ok0 β0
 repeat first | refine W1 ?_ | refine W3 ?_ | ((first | refine W2 hT hM [] ?_ | refine W4 ?_ | refine W5 ?_ | refine W6 ?_ | refine W7 ?_ rfl);conv=>whnf)
 (split<;>rename_i hb<;>(try rw [hb])<;>(conv=>whnf))
 ·repeat first | refine W1 ?_ | refine W3 ?_ | ((first | refine W2 hT hM [] ?_ | refine W4 ?_ | refine W5 ?_ | refine W6 ?_ | refine W7 ?_ rfl);conv=>whnf)
  rw [Oz (.inl (IG hb))]
 (split<;>rename_i hb<;>(try rw [hb])<;>(conv=>whnf))
 ·repeat first | refine W1 ?_ | refine W3 ?_ | ((first | refine W2 hT hM [] ?_ | refine W4 ?_ | refine W5 ?_ | refine W6 ?_ | refine W7 ?_ rfl);conv=>whnf)
  rw [Oz (.inl (IE hb))]
 have hlen:=Nj (by assumption) hb
 clear hb
 cases s with
 | nil=>simp [kQ] at hlen
 | cons c s=>
 refine ⟨by omega,c,rfl,?_⟩
 conv=>whnf
 refine ⟨⟨rfl,by decide,by decide,by decide⟩,?_⟩
 conv=>whnf
 refine .inl ⟨_,Tryz.inC c [x] (by simp),.inl rfl,?_⟩
 conv=>whnf
 cases hc:jA c [x] with
 | false=>
   conv=>whnf
   repeat first | refine W1 ?_ | refine W3 ?_ | ((first | refine W2 hT hM [] ?_ | refine W4 ?_ | refine W5 ?_ | refine W6 ?_ | refine W7 ?_ rfl);conv=>whnf)
   rw [Oz (.inr (.inl (show headB (fun c=>jA c [x]) (c::s)=false from hc)))]
 | true=>
 conv=>whnf
 have hh:headB (fun c=>jA c [x]) (c::s)=true:=hc
 generalize c::s=s at *
 have hl16:s.length≤16:=by simp [kQ] at hlen;omega
 repeat first | refine W1 ?_ | refine W3 ?_ | ((first | refine W2 hT hM [] ?_ | refine W4 ?_ | refine W5 ?_ | refine W6 ?_ | refine W7 ?_ rfl);conv=>whnf)
 refine WP.loop (α:=Nat) (fun i=>⟨[(0,.d (.str s)),(3,.d (.ref [.int .u8 x.1,.int .u8 x.2,.int .u8 y.1,.int .u8 y.2,.int .u8 z.1,.int .u8 z.2] 0)),(5,.d (.int .i64 i))],[],[]⟩) (fun i=>i≤s.length∧(s.take i).all (fun c=>jA c [x,y,z])=true) (fun i=>s.length-i) 0 [] [] ?_ ?_ ?_
 ·((conv=>whnf);repeat (first | exact True.intro | (refine And.intro (by first | rfl | exact ⟨rfl,rfl,rfl⟩ | exact ⟨rfl,rfl,by simp⟩ | exact ⟨rfl,rfl⟩ | exact ⟨rfl,by simp⟩ | (simp;done) | (simp;omega)) ?_;conv=>whnf)))
 ·simp
 ·rintro i ⟨hi,ht⟩
  repeat first | refine W1 ?_ | refine W3 ?_ | ((first | refine W2 hT hM [] ?_ | refine W4 ?_ | refine W5 ?_ | refine W6 ?_ | refine W7 ?_ rfl);conv=>whnf)
  (split<;>rename_i hb<;>(try rw [hb])<;>(conv=>whnf))
  ·have hlt:i<s.length:=by simpa using hb
   clear hb
   repeat first | refine W1 ?_ | refine W3 ?_ | ((first | refine W2 hT hM [] ?_ | refine W4 ?_ | refine W5 ?_ | refine W6 ?_ | refine W7 ?_ rfl);conv=>whnf)
   refine ⟨by omega,_,fK hlt,?_⟩
   conv=>whnf
   refine ⟨⟨rfl,by decide,by decide,by decide⟩,?_⟩
   conv=>whnf
   refine .inl ⟨_,Tryz.inC s[i] [x,y,z] (by simp),.inl rfl,?_⟩
   conv=>whnf
   cases h1:jA s[i] [x,y,z] with
   | true=>
     conv=>whnf
     repeat first | refine W1 ?_ | refine W3 ?_ | ((first | refine W2 hT hM [] ?_ | refine W4 ?_ | refine W5 ?_ | refine W6 ?_ | refine W7 ?_ rfl);conv=>whnf)
     refine ⟨by omega,?_⟩
     conv=>whnf
     refine ⟨i+1,[],[],?_,⟨by omega,qY hlt ht h1⟩,by omega⟩
     ((conv=>whnf);repeat (first | exact True.intro | (refine And.intro (by first | rfl | exact ⟨rfl,rfl,rfl⟩ | exact ⟨rfl,rfl,by simp⟩ | exact ⟨rfl,rfl⟩ | exact ⟨rfl,by simp⟩ | (simp;done) | (simp;omega)) ?_;conv=>whnf)))
   | false=>
     conv=>whnf
     repeat first | refine W1 ?_ | refine W3 ?_ | ((first | refine W2 hT hM [] ?_ | refine W4 ?_ | refine W5 ?_ | refine W6 ?_ | refine W7 ?_ rfl);conv=>whnf)
     rw [Oz (.inr (.inr (tu hlt h1)))]
  ·have:i=s.length:=by simp at hb;omega
   subst this
   rw [List.take_length] at ht
   repeat first | refine W1 ?_ | refine W3 ?_ | ((first | refine W2 hT hM [] ?_ | refine W4 ?_ | refine W5 ?_ | refine W6 ?_ | refine W7 ?_ rfl);conv=>whnf)
   rw [abj hlen hh ht]
theorem VO (s:Str):spB (97,122) (48,57) (45,45) s=(kQ s&&headB pO s&&s.all nO):=by
 have h1:(fun c=>jA c [(97,122)])=pO:=by funext c;simp [jA,pO]
 have h2:(fun c=>jA c [(97,122),(48,57),(45,45)])=nO:=by funext c;simp [jA,nO,pO,ou,hyB]
 unfold spB;rw [h1,h2]
theorem Yy (s:Str):spB (65,90) (97,122) (48,57) s=wJ s:=by
 have h1:(fun c=>jA c [(65,90)])=yI:=by funext c;simp [jA,yI]
 have h2:(fun c=>jA c [(65,90),(97,122),(48,57)])=BD:=by funext c;simp [jA,BD,pO,ou,yI]
 unfold spB wJ;rw [h1,h2]
theorem Tryz.variable (s:Str):Pure Tryz.prog 113 [.str s] [.bool (wJ s)]:=by
 refine Pure.of_wp hT (nt:=_) (c:=_) Tryz.func113 rfl rfl rfl rfl (by kernel_rfl) ?_
 intro w0 ok0 β0
 repeat first | refine W1 ?_ | refine W3 ?_ | ((first | refine W2 hT hM [] ?_ | refine W4 ?_ | refine W5 ?_ | refine W6 ?_ | refine W7 ?_ rfl);conv=>whnf)
 (repeat (refine ⟨by first | rfl | omega,?_⟩;conv=>whnf))
 refine .inl ⟨_,Tryz.spelled s (65,90) (97,122) (48,57),.inl rfl,?_⟩
 conv=>whnf
 repeat first | refine W1 ?_ | refine W3 ?_ | ((first | refine W2 hT hM [] ?_ | refine W4 ?_ | refine W5 ?_ | refine W6 ?_ | refine W7 ?_ rfl);conv=>whnf)
 rw [Yy]
theorem Tryz.name (s:Str):Pure Tryz.prog 57 [.str s] [.bool (nameB s)]:=by
 refine Pure.of_wp hT (nt:=_) (c:=_) Tryz.func57 rfl rfl rfl rfl (by kernel_rfl) ?_
 intro w0 ok0 β0
 repeat first | refine W1 ?_ | refine W3 ?_ | ((first | refine W2 hT hM [] ?_ | refine W4 ?_ | refine W5 ?_ | refine W6 ?_ | refine W7 ?_ rfl);conv=>whnf)
 (repeat (refine ⟨by first | rfl | omega,?_⟩;conv=>whnf))
 refine .inl ⟨_,Tryz.spelled s (97,122) (48,57) (45,45),.inl rfl,?_⟩
 conv=>whnf
 rw [VO]
 cases hs:kQ s&&headB pO s&&s.all nO with
 | false=>
   conv=>whnf
   repeat first | refine W1 ?_ | refine W3 ?_ | ((first | refine W2 hT hM [] ?_ | refine W4 ?_ | refine W5 ?_ | refine W6 ?_ | refine W7 ?_ rfl);conv=>whnf)
   unfold nameB;rw [hs];rfl
 | true=>
   conv=>whnf
   have e:nameB s=(!(s==sIf)&&!(s==Az)&&!(s==MG)):=by unfold nameB;rw [hs];simp
   (split<;>rename_i hb<;>(try rw [hb])<;>(conv=>whnf))
   ·have h1:s≠sIf:=by simpa [sIf] using hb
    clear hb
    (split<;>rename_i hb<;>(try rw [hb])<;>(conv=>whnf))
    ·have h2:s≠Az:=by simpa [Az] using hb
     clear hb
     repeat first | refine W1 ?_ | refine W3 ?_ | ((first | refine W2 hT hM [] ?_ | refine W4 ?_ | refine W5 ?_ | refine W6 ?_ | refine W7 ?_ rfl);conv=>whnf)
     rw [e,show (s==sIf)=false by simpa using h1,show (s==Az)=false by simpa using h2];rfl
    ·have h2:s=Az:=by simpa [Az] using hb
     repeat first | refine W1 ?_ | refine W3 ?_ | ((first | refine W2 hT hM [] ?_ | refine W4 ?_ | refine W5 ?_ | refine W6 ?_ | refine W7 ?_ rfl);conv=>whnf)
     rw [e];simp [h2]
   ·have h1:s=sIf:=by simpa [sIf] using hb
    repeat first | refine W1 ?_ | refine W3 ?_ | ((first | refine W2 hT hM [] ?_ | refine W4 ?_ | refine W5 ?_ | refine W6 ?_ | refine W7 ?_ rfl);conv=>whnf)
    rw [e];simp [h1]
theorem Tryz.number (s:Str):Pure Tryz.prog 66 [.str s] [.int .i64 (lg s),.bool (dY s)]:=by
 refine Pure.of_wp hT (nt:=_) (c:=_) Tryz.func66 rfl rfl rfl rfl (by kernel_rfl) ?_
 intro w0 ok0 β0
 have no:dY s=false→[D.int .i64 0,.bool false]=[D.int .i64 (lg s),.bool (dY s)]:=fun h=>by unfold lg;rw [h];rfl
 have yes:dY s=true→numAt 0 s≤9999→[D.int .i64 (numAt 0 s),.bool (decide (numAt 0 s≤9999))]=[D.int .i64 (lg s),.bool (dY s)]:=fun h h'=>by unfold lg;rw [h,decide_eq_true h'];rfl
 repeat first | refine W1 ?_ | refine W3 ?_ | ((first | refine W2 hT hM [] ?_ | refine W4 ?_ | refine W5 ?_ | refine W6 ?_ | refine W7 ?_ rfl);conv=>whnf)
 (split<;>rename_i hb<;>(try rw [hb])<;>(conv=>whnf))
 ·repeat first | refine W1 ?_ | refine W3 ?_ | ((first | refine W2 hT hM [] ?_ | refine W4 ?_ | refine W5 ?_ | refine W6 ?_ | refine W7 ?_ rfl);conv=>whnf)
  exact no (jS (.inl (by simp only [decide_eq_true_eq] at hb;omega)))
 (split<;>rename_i hb<;>(try rw [hb])<;>(conv=>whnf))
 ·repeat first | refine W1 ?_ | refine W3 ?_ | ((first | refine W2 hT hM [] ?_ | refine W4 ?_ | refine W5 ?_ | refine W6 ?_ | refine W7 ?_ rfl);conv=>whnf)
  exact no (jS (.inr (.inl (by simp only [decide_eq_true_eq] at hb;omega))))
 rename_i _ h1 _
 have hl1:1≤s.length:=by simp only [decide_eq_false_iff_not] at h1;omega
 have hl4:s.length≤4:=by simp only [decide_eq_false_iff_not] at hb;omega
 clear h1 hb
 obtain ⟨c,t,hs⟩:=JC hl1
 refine ⟨by omega,c,by rw [hs];rfl,?_⟩
 conv=>whnf
 by_cases h3:headB (fun c=>decide ((c.toNat:Int)=48)) s=true∧1<s.length
 ·rw [show ((c.toNat:Int)==48)=true by have:=h3.1;rw [hs] at this;simpa [headB] using this]
  conv=>whnf
  rw [decide_eq_true (p:=(s.length:Int)>1) (by omega)]
  conv=>whnf
  repeat first | refine W1 ?_ | refine W3 ?_ | ((first | refine W2 hT hM [] ?_ | refine W4 ?_ | refine W5 ?_ | refine W6 ?_ | refine W7 ?_ rfl);conv=>whnf)
  exact no (jS (.inr (.inr (.inl h3))))
 (split<;>rename_i hb<;>(try rw [hb])<;>(conv=>whnf))<;>first
  | (rw [decide_eq_false (p:=(s.length:Int)>1) (fun h=>h3 ⟨by rw [hs];simpa [headB] using hb,by omega⟩)]
     conv=>whnf)
  | skip
 all_goals
  repeat first | refine W1 ?_ | refine W3 ?_ | ((first | refine W2 hT hM [] ?_ | refine W4 ?_ | refine W5 ?_ | refine W6 ?_ | refine W7 ?_ rfl);conv=>whnf)
  refine WP.loop (α:=Nat) (fun i=>⟨[(0,.d (.str s)),(4,.d (.int .i64 (numAt 0 (s.take i)))),(5,.d (.int .i64 i))],[],[]⟩) (fun i=>i≤s.length∧(s.take i).all ou=true) (fun i=>s.length-i) 0 [] [] ?_ ?_ ?_
  ·((conv=>whnf);repeat (first | exact True.intro | (refine And.intro (by first | rfl | exact ⟨rfl,rfl,rfl⟩ | exact ⟨rfl,rfl,by simp⟩ | exact ⟨rfl,rfl⟩ | exact ⟨rfl,by simp⟩ | (simp;done) | (simp;omega)) ?_;conv=>whnf)))
  ·simp
  ·rintro i ⟨hi,ht⟩
   repeat first | refine W1 ?_ | refine W3 ?_ | ((first | refine W2 hT hM [] ?_ | refine W4 ?_ | refine W5 ?_ | refine W6 ?_ | refine W7 ?_ rfl);conv=>whnf)
   (split<;>rename_i hb<;>(try rw [hb])<;>(conv=>whnf))
   ·have hlt:i<s.length:=by simp only [decide_eq_true_eq] at hb;omega
    clear hb
    repeat first | refine W1 ?_ | refine W3 ?_ | ((first | refine W2 hT hM [] ?_ | refine W4 ?_ | refine W5 ?_ | refine W6 ?_ | refine W7 ?_ rfl);conv=>whnf)
    refine ⟨by omega,_,fK hlt,?_⟩
    conv=>whnf
    cases h1:ou s[i] with
    | true=>
      obtain ⟨d1,d2⟩:=yx.1 h1
      obtain ⟨n1,n2⟩:=rP hl4 ht
      have ht':=qY hlt ht h1
      obtain ⟨n3,n4⟩:=rP hl4 ht'
      have hn:=Df hlt
      rw [decide_eq_false (p:=(s[i].toNat:Int)<48) (by omega)]
      conv=>whnf
      refine ⟨by omega,_,fK hlt,?_⟩
      conv=>whnf
      rw [decide_eq_false (p:=(s[i].toNat:Int)>57) (by omega)]
      conv=>whnf
      repeat first | refine W1 ?_ | refine W3 ?_ | ((first | refine W2 hT hM [] ?_ | refine W4 ?_ | refine W5 ?_ | refine W6 ?_ | refine W7 ?_ rfl);conv=>whnf)
      refine ⟨by omega,?_⟩
      conv=>whnf
      refine ⟨by omega,_,fK hlt,?_⟩
      conv=>whnf
      rw [wrap_u8 (by omega) (by omega)]
      refine ⟨by omega,?_⟩
      conv=>whnf
      refine ⟨by omega,?_⟩
      conv=>whnf
      repeat first | refine W1 ?_ | refine W3 ?_ | ((first | refine W2 hT hM [] ?_ | refine W4 ?_ | refine W5 ?_ | refine W6 ?_ | refine W7 ?_ rfl);conv=>whnf)
      refine ⟨by omega,?_⟩
      conv=>whnf
      refine ⟨i+1,[],[],?_,⟨by omega,ht'⟩,by omega⟩
      rw [hn]
      ((conv=>whnf);repeat (first | exact True.intro | (refine And.intro (by first | rfl | exact ⟨rfl,rfl,rfl⟩ | exact ⟨rfl,rfl,by simp⟩ | exact ⟨rfl,rfl⟩ | exact ⟨rfl,by simp⟩ | (simp;done) | (simp;omega)) ?_;conv=>whnf)))
    | false=>
      have h2:(s[i].toNat:Int)<48∨(s[i].toNat:Int)>57:=by
       have:¬ (48≤(s[i].toNat:Int)∧(s[i].toNat:Int)≤57):=fun h=>by rw [yx.2 h] at h1;cases h1
       omega
      by_cases h5:(s[i].toNat:Int)<48
      ·rw [decide_eq_true (p:=(s[i].toNat:Int)<48) h5]
       conv=>whnf
       repeat first | refine W1 ?_ | refine W3 ?_ | ((first | refine W2 hT hM [] ?_ | refine W4 ?_ | refine W5 ?_ | refine W6 ?_ | refine W7 ?_ rfl);conv=>whnf)
       exact no (jS (.inr (.inr (.inr (tu hlt h1)))))
      ·rw [decide_eq_false (p:=(s[i].toNat:Int)<48) h5]
       conv=>whnf
       refine ⟨by omega,_,fK hlt,?_⟩
       conv=>whnf
       rw [decide_eq_true (p:=(s[i].toNat:Int)>57) (by omega)]
       conv=>whnf
       repeat first | refine W1 ?_ | refine W3 ?_ | ((first | refine W2 hT hM [] ?_ | refine W4 ?_ | refine W5 ?_ | refine W6 ?_ | refine W7 ?_ rfl);conv=>whnf)
       exact no (jS (.inr (.inr (.inr (tu hlt h1)))))
   ·have:i=s.length:=by simp only [decide_eq_false_iff_not] at hb;omega
    subst this
    rw [List.take_length] at ht
    rw [List.take_length]
    repeat first | refine W1 ?_ | refine W3 ?_ | ((first | refine W2 hT hM [] ?_ | refine W4 ?_ | refine W5 ?_ | refine W6 ?_ | refine W7 ?_ rfl);conv=>whnf)
    exact yes (O5 hl1 hl4 h3 ht) (zY hl4 ht).2
theorem Tryz.V8 (s:Str):Pure Tryz.prog 119 [.str s] [.bool (dY s)]:=by
 refine Pure.of_wp hT (nt:=_) (c:=_) Tryz.func119 rfl rfl rfl rfl (by kernel_rfl) ?_
 intro w0 ok0 β0
 repeat first | refine W1 ?_ | refine W3 ?_ | ((first | refine W2 hT hM [] ?_ | refine W4 ?_ | refine W5 ?_ | refine W6 ?_ | refine W7 ?_ rfl);conv=>whnf)
 refine .inl ⟨_,Tryz.number s,.inl rfl,?_⟩
 conv=>whnf
 repeat first | refine W1 ?_ | refine W3 ?_ | ((first | refine W2 hT hM [] ?_ | refine W4 ?_ | refine W5 ?_ | refine W6 ?_ | refine W7 ?_ rfl);conv=>whnf)
end Go.Proofs.YtoifejgcmkencaaGreat
namespace Go.Proofs.YtoifejgcmkencaaGreat
open Go Go.Abs Go.Own Go.RowKit
attribute [local irreducible] WP
theorem LG:∀ a b:Str,Lib.compareBytes a b=dX a b
 | [],[]=>rfl
 | [],_::_=>rfl
 | _::_,[]=>rfl
 | a::l,b::m=>by unfold Lib.compareBytes dX;rw [LG l m]
set_option maxHeartbeats 1000000 in
set_option maxRecDepth 100000 in
theorem Tryz.aaZ (a b:Str) (w:World):Calls Tryz.prog 114 #[.string ⟨a.toArray⟩,.string ⟨b.toArray⟩] w fun e w'=>e = .returned (.int .i64 (dX a b))∧w'=w:=by
 go_enter Tryz.func114,Tryz.ntmps114
 go_wp2
 rw [run_callFunc_extern Tryz.func124 (by kernel_rfl) (by kernel_rfl) (by kernel_rfl) (e:=Extern.BytealgCompare.compare) (by kernel_rfl)]
 rw [Lib.run_compareString]
 simp only [Result.andThen]
 rw [Oper.upon_value]
 go_wp2
 go_ret
 exact ⟨by rw [← LG];rfl,rfl⟩
theorem Tryz.Xf (a b:Str):Pure Tryz.prog 114 [.str a,.str b] [.int .i64 (dX a b)]:=by
 refine ⟨⟨_,Tryz.func114,by kernel_rfl,rfl⟩,fun ok w vs hgl hokb hsz hrd=>?_⟩
 obtain ⟨v0,v1,rfl⟩:∃ v0 v1,vs=#[v0,v1]:=by
  match vs,hsz with
  | ⟨[v0,v1]⟩,_=>exact ⟨v0,v1,rfl⟩
 have h0:=hrd 0 v0 _ rfl rfl
 have h1:=hrd 1 v1 _ rfl rfl
 cases h0
 cases h1
 refine (Tryz.aaZ a b w).mono ?_
 rintro e w' ⟨rfl,rfl⟩
 exact ⟨_,rfl,Frame.refl _ _,.int _ _⟩
theorem Tryz.BH (a b:Str):Pure Tryz.prog 94 [.str a,.str b] [.int .i64 (dX a b)]:=by
 refine Pure.of_wp hT (nt:=_) (c:=_) Tryz.func94 rfl rfl rfl rfl (by kernel_rfl) ?_
 intro w0 ok0 β0
 repeat first | refine W1 ?_ | refine W3 ?_ | ((first | refine W2 hT hM [] ?_ | refine W4 ?_ | refine W5 ?_ | refine W6 ?_ | refine W7 ?_ rfl);conv=>whnf)
 refine .inl ⟨_,Tryz.Xf a b,.inl rfl,?_⟩
 conv=>whnf
 repeat first | refine W1 ?_ | refine W3 ?_ | ((first | refine W2 hT hM [] ?_ | refine W4 ?_ | refine W5 ?_ | refine W6 ?_ | refine W7 ?_ rfl);conv=>whnf)
theorem rW:∀ a b:Str,Op.bytesLess a b=decide (dX a b<0)
 | [],[]=>by simp [Op.bytesLess,dX]
 | [],_::_=>by simp [Op.bytesLess,dX]
 | _::_,[]=>by simp [Op.bytesLess,dX]
 | a::l,b::m=>by
   unfold Op.bytesLess dX
   by_cases h:a<b
   ·simp [h]
   ·by_cases h':b<a
    ·have:a≠b:=by rintro rfl;exact h h'
     simp [h,h',this]
    ·have:a=b:=UInt8.le_antisymm (UInt8.not_lt.1 h') (UInt8.not_lt.1 h)
     subst this
     simp [UInt8.lt_irrefl,rW l m]
theorem yA:∀ {a b:Str},dX a b=0↔a=b
 | [],[]=>by simp [dX]
 | [],_::_=>by simp [dX]
 | _::_,[]=>by simp [dX]
 | a::l,b::m=>by
   unfold dX
   by_cases h:a<b
   ·have:a≠b:=by rintro rfl;exact UInt8.lt_irrefl _ h
    simp [h,this]
   ·by_cases h':b<a
    ·have:a≠b:=by rintro rfl;exact h h'
     simp [h,h',this]
    ·have:a=b:=UInt8.le_antisymm (UInt8.not_lt.1 h') (UInt8.not_lt.1 h)
     subst this
     simp [UInt8.lt_irrefl,yA]
theorem Ew:∀ a b:Str,dX a b=-1∨dX a b=0∨dX a b=1
 | [],[]=>by simp [dX]
 | [],_::_=>by simp [dX]
 | _::_,[]=>by simp [dX]
 | a::l,b::m=>by
   unfold dX
   split
   ·exact .inl rfl
   ·split
    ·exact .inr (.inr rfl)
    ·exact Ew l m
theorem Tryz.Qz (a b:Str):Pure Tryz.prog 54 [.str a,.str b] [.int .i64 (dX a b)]:=by
 refine Pure.of_wp hT (nt:=_) (c:=_) Tryz.func54 rfl rfl rfl rfl (by kernel_rfl) ?_
 intro w0 ok0 β0
 have hr:=Ew a b
 repeat first | refine W1 ?_ | refine W3 ?_ | ((first | refine W2 hT hM [] ?_ | refine W4 ?_ | refine W5 ?_ | refine W6 ?_ | refine W7 ?_ rfl);conv=>whnf)
 (split<;>rename_i hb<;>(try rw [hb])<;>(conv=>whnf))
 ·rw [rW] at hb
  simp only [decide_eq_true_eq] at hb
  repeat first | refine W1 ?_ | refine W3 ?_ | ((first | refine W2 hT hM [] ?_ | refine W4 ?_ | refine W5 ?_ | refine W6 ?_ | refine W7 ?_ rfl);conv=>whnf)
  rw [show dX a b=-1 by omega]
 repeat first | refine W1 ?_ | refine W3 ?_ | ((first | refine W2 hT hM [] ?_ | refine W4 ?_ | refine W5 ?_ | refine W6 ?_ | refine W7 ?_ rfl);conv=>whnf)
 (split<;>rename_i hb<;>(try rw [hb])<;>(conv=>whnf))
 ·have h1:¬ dX a b<0:=fun h=>by rw [rW,decide_eq_true h] at hb;simp at hb
  have h2:dX a b≠0:=fun h=>by rw [yA.1 h] at hb;simp at hb
  repeat first | refine W1 ?_ | refine W3 ?_ | ((first | refine W2 hT hM [] ?_ | refine W4 ?_ | refine W5 ?_ | refine W6 ?_ | refine W7 ?_ rfl);conv=>whnf)
  rw [show dX a b=1 by omega]
 ·have h2:dX a b=0:=by
   rename_i h1 _
   rw [rW] at h1 hb
   rw [h1] at hb
   simp at hb
   exact yA.2 hb
  repeat first | refine W1 ?_ | refine W3 ?_ | ((first | refine W2 hT hM [] ?_ | refine W4 ?_ | refine W5 ?_ | refine W6 ?_ | refine W7 ?_ rfl);conv=>whnf)
  rw [h2]
theorem Tryz.sign (a b:Int):Pure Tryz.prog 51 [.int .i64 a,.int .i64 b] [.int .i64 (eU a b)]:=by
 refine Pure.of_wp hT (nt:=_) (c:=_) Tryz.func51 rfl rfl rfl rfl (by kernel_rfl) ?_
 intro w0 ok0 β0
 unfold eU
 repeat first | refine W1 ?_ | refine W3 ?_ | ((first | refine W2 hT hM [] ?_ | refine W4 ?_ | refine W5 ?_ | refine W6 ?_ | refine W7 ?_ rfl);conv=>whnf)
 (split<;>rename_i hb<;>(try rw [hb])<;>(conv=>whnf))
 ·simp only [decide_eq_true_eq] at hb
  repeat first | refine W1 ?_ | refine W3 ?_ | ((first | refine W2 hT hM [] ?_ | refine W4 ?_ | refine W5 ?_ | refine W6 ?_ | refine W7 ?_ rfl);conv=>whnf)
  rw [if_pos hb]
 ·repeat first | refine W1 ?_ | refine W3 ?_ | ((first | refine W2 hT hM [] ?_ | refine W4 ?_ | refine W5 ?_ | refine W6 ?_ | refine W7 ?_ rfl);conv=>whnf)
  simp only [decide_eq_false_iff_not] at hb
  rw [if_neg hb]
  (split<;>rename_i hb<;>(try rw [hb])<;>(conv=>whnf))
  ·simp only [decide_eq_true_eq] at hb
   repeat first | refine W1 ?_ | refine W3 ?_ | ((first | refine W2 hT hM [] ?_ | refine W4 ?_ | refine W5 ?_ | refine W6 ?_ | refine W7 ?_ rfl);conv=>whnf)
   rw [if_pos hb]
  ·simp only [decide_eq_false_iff_not] at hb
   repeat first | refine W1 ?_ | refine W3 ?_ | ((first | refine W2 hT hM [] ?_ | refine W4 ?_ | refine W5 ?_ | refine W6 ?_ | refine W7 ?_ rfl);conv=>whnf)
   rw [if_neg (by omega)]
theorem Tryz.order (a b:Int):Pure Tryz.prog 93 [.int .i64 a,.int .i64 b] [.int .i64 (eU a b)]:=by
 refine Pure.of_wp hT (nt:=_) (c:=_) Tryz.func93 rfl rfl rfl rfl (by kernel_rfl) ?_
 intro w0 ok0 β0
 unfold eU
 repeat first | refine W1 ?_ | refine W3 ?_ | ((first | refine W2 hT hM [] ?_ | refine W4 ?_ | refine W5 ?_ | refine W6 ?_ | refine W7 ?_ rfl);conv=>whnf)
 (split<;>rename_i hb<;>(try rw [hb])<;>(conv=>whnf))
 ·simp only [decide_eq_true_eq] at hb
  repeat first | refine W1 ?_ | refine W3 ?_ | ((first | refine W2 hT hM [] ?_ | refine W4 ?_ | refine W5 ?_ | refine W6 ?_ | refine W7 ?_ rfl);conv=>whnf)
  rw [if_pos hb]
 ·repeat first | refine W1 ?_ | refine W3 ?_ | ((first | refine W2 hT hM [] ?_ | refine W4 ?_ | refine W5 ?_ | refine W6 ?_ | refine W7 ?_ rfl);conv=>whnf)
  simp only [decide_eq_false_iff_not] at hb
  rw [if_neg hb]
  (split<;>rename_i hb<;>(try rw [hb])<;>(conv=>whnf))
  ·simp only [decide_eq_true_eq] at hb
   repeat first | refine W1 ?_ | refine W3 ?_ | ((first | refine W2 hT hM [] ?_ | refine W4 ?_ | refine W5 ?_ | refine W6 ?_ | refine W7 ?_ rfl);conv=>whnf)
   rw [if_pos hb]
  ·simp only [decide_eq_false_iff_not] at hb
   repeat first | refine W1 ?_ | refine W3 ?_ | ((first | refine W2 hT hM [] ?_ | refine W4 ?_ | refine W5 ?_ | refine W6 ?_ | refine W7 ?_ rfl);conv=>whnf)
   rw [if_neg (by omega)]
end Go.Proofs.YtoifejgcmkencaaGreat
namespace Go.Proofs.YtoifejgcmkencaaGreat
open Go Go.Abs Go.Own
attribute [local irreducible] WP
mutual
def enT:Tm→D
 | .mk n l => .agg [.str n,.list (W9 l)]
def W9:List Tm→List D
 | []=>[]
 | t::ts=>enT t::W9 ts
end
theorem Lu:∀ l:List Tm,W9 l=l.map enT
 | []=>rfl
 | t::ts=>by rw [W9,Lu ts];rfl
def tD (n:Str) (l:List Tm):D := .agg [.str n,.list (l.map enT)]
theorem U3 (t:Tm):enT t=tD t.name t.args:=by obtain ⟨n,l⟩:=t;rw [enT,Lu];rfl
theorem vP {l:List Tm} {i:Nat} (h:i<l.length):(l.map enT)[((i:Int)).toNat]?=some (tD l[i].name l[i].args):=by rw [← U3];exact bC h
theorem Tryz.Oa (n:Str) (l:List Tm):Pure Tryz.prog 77 [tD n l] [.bool (decide (l.length=0)&&(nameB n||dY n))]:=by
 refine Pure.of_wp hT (nt:=_) (c:=_) Tryz.func77 rfl rfl rfl rfl (by kernel_rfl) ?_
 intro w0 ok0 β0
 repeat first | refine W1 ?_ | refine W3 ?_ | ((first | refine W2 hT hM [] ?_ | refine W4 ?_ | refine W5 ?_ | refine W6 ?_ | refine W7 ?_ rfl);conv=>whnf)
 (split<;>rename_i hb<;>(try rw [hb])<;>(conv=>whnf))
 ·have h0:l.length=0:=by simpa using hb
  rw [decide_eq_true h0]
  refine .inl ⟨_,Tryz.MZ n,.inl rfl,?_⟩
  conv=>whnf
  cases hn:nameB n with
  | true=>
    conv=>whnf
    repeat first | refine W1 ?_ | refine W3 ?_ | ((first | refine W2 hT hM [] ?_ | refine W4 ?_ | refine W5 ?_ | refine W6 ?_ | refine W7 ?_ rfl);conv=>whnf)
    rfl
  | false=>
    conv=>whnf
    refine .inl ⟨_,Tryz.Kz n,.inl rfl,?_⟩
    conv=>whnf
    repeat first | refine W1 ?_ | refine W3 ?_ | ((first | refine W2 hT hM [] ?_ | refine W4 ?_ | refine W5 ?_ | refine W6 ?_ | refine W7 ?_ rfl);conv=>whnf)
    rfl
 ·have h0:l.length≠0:=by simpa using hb
  rw [decide_eq_false h0]
  repeat first | refine W1 ?_ | refine W3 ?_ | ((first | refine W2 hT hM [] ?_ | refine W4 ?_ | refine W5 ?_ | refine W6 ?_ | refine W7 ?_ rfl);conv=>whnf)
  rfl
theorem Tryz.Wy (n:Str) (l:List Tm):Pure Tryz.prog 78 [tD n l] [.bool (decide (l.length=0)&&wJ n)]:=by
 refine Pure.of_wp hT (nt:=_) (c:=_) Tryz.func78 rfl rfl rfl rfl (by kernel_rfl) ?_
 intro w0 ok0 β0
 repeat first | refine W1 ?_ | refine W3 ?_ | ((first | refine W2 hT hM [] ?_ | refine W4 ?_ | refine W5 ?_ | refine W6 ?_ | refine W7 ?_ rfl);conv=>whnf)
 (split<;>rename_i hb<;>(try rw [hb])<;>(conv=>whnf))
 ·have h0:l.length=0:=by simpa using hb
  rw [decide_eq_true h0]
  refine .inl ⟨_,Tryz.BA n,.inl rfl,?_⟩
  conv=>whnf
  repeat first | refine W1 ?_ | refine W3 ?_ | ((first | refine W2 hT hM [] ?_ | refine W4 ?_ | refine W5 ?_ | refine W6 ?_ | refine W7 ?_ rfl);conv=>whnf)
  rfl
 ·have h0:l.length≠0:=by simpa using hb
  rw [decide_eq_false h0]
  repeat first | refine W1 ?_ | refine W3 ?_ | ((first | refine W2 hT hM [] ?_ | refine W4 ?_ | refine W5 ?_ | refine W6 ?_ | refine W7 ?_ rfl);conv=>whnf)
  rfl
theorem Ht {l:List Tm} {p:Tm→Bool} {i:Nat} (h:i<l.length) (ht:(l.take i).all p=true) (hp:p l[i]=true):(l.take (i+1)).all p=true:=by
 rw [List.take_succ_eq_append_getElem h,List.all_append,ht];simp [hp]
theorem LX {l:List Tm} {p:Tm→Bool} {i:Nat} (h:i<l.length) (hp:p l[i]=false):l.all p=false:=by
 rw [List.all_eq_false];exact ⟨_,List.getElem_mem h,by simp [hp]⟩
theorem Tryz.Js (g:Bool):∀ (k:Nat),k≤1000→∀ t:Tm,Pure Tryz.prog 48 [tD t.name t.args,.int .i64 k,.bool g] [.bool (pU (!g) k t)]
 | 0,_,t=>by
   obtain ⟨n,l⟩:=t
   refine Pure.of_wp hT (nt:=_) (c:=_) Tryz.func48 rfl rfl rfl rfl (by kernel_rfl) ?_
   intro w0 ok0 β0
   repeat first | refine W1 ?_ | refine W3 ?_ | ((first | refine W2 hT hM [] ?_ | refine W4 ?_ | refine W5 ?_ | refine W6 ?_ | refine W7 ?_ rfl);conv=>whnf)
   rw [pU]
 | k+1,hk,t=>by
   have ih:=Tryz.Js g k (by omega)
   rw [Ot]
   generalize t.name=n
   generalize t.args=l
   refine Pure.of_wp hT (nt:=_) (c:=_) Tryz.func48 rfl rfl rfl rfl (by kernel_rfl) ?_
   intro w0 ok0 β0
   repeat first | refine W1 ?_ | refine W3 ?_ | ((first | refine W2 hT hM [] ?_ | refine W4 ?_ | refine W5 ?_ | refine W6 ?_ | refine W7 ?_ rfl);conv=>whnf)
   rw [decide_eq_false (p:=(((k+1:Nat):Int)<1)) (by omega)]
   conv=>whnf
   repeat first | refine W1 ?_ | refine W3 ?_ | ((first | refine W2 hT hM [] ?_ | refine W4 ?_ | refine W5 ?_ | refine W6 ?_ | refine W7 ?_ rfl);conv=>whnf)
   split<;>rename_i hb
   ·have h0:l.length=0:=by simpa using hb
    rw [if_pos (by omega),if_pos h0]
    repeat first | refine W1 ?_ | refine W3 ?_ | ((first | refine W2 hT hM [] ?_ | refine W4 ?_ | refine W5 ?_ | refine W6 ?_ | refine W7 ?_ rfl);conv=>whnf)
    refine .inl ⟨_,Tryz.Oa n l,.inl rfl,?_⟩
    rw [decide_eq_true h0]
    conv=>whnf
    cases hc:nameB n||dY n with
    | true=>
      conv=>whnf
      repeat first | refine W1 ?_ | refine W3 ?_ | ((first | refine W2 hT hM [] ?_ | refine W4 ?_ | refine W5 ?_ | refine W6 ?_ | refine W7 ?_ rfl);conv=>whnf)
      rfl
    | false=>
      conv=>whnf
      cases g with
      | true=>
        conv=>whnf
        repeat first | refine W1 ?_ | refine W3 ?_ | ((first | refine W2 hT hM [] ?_ | refine W4 ?_ | refine W5 ?_ | refine W6 ?_ | refine W7 ?_ rfl);conv=>whnf)
        rfl
      | false=>
        conv=>whnf
        refine .inl ⟨_,Tryz.Wy n l,.inl rfl,?_⟩
        rw [decide_eq_true h0]
        conv=>whnf
        repeat first | refine W1 ?_ | refine W3 ?_ | ((first | refine W2 hT hM [] ?_ | refine W4 ?_ | refine W5 ?_ | refine W6 ?_ | refine W7 ?_ rfl);conv=>whnf)
        rfl
   ·have h0:l.length≠0:=by simpa using hb
    rw [if_neg h0]
    repeat first | refine W1 ?_ | refine W3 ?_ | ((first | refine W2 hT hM [] ?_ | refine W4 ?_ | refine W5 ?_ | refine W6 ?_ | refine W7 ?_ rfl);conv=>whnf)
    refine .inl ⟨_,Tryz.MZ n,.inl rfl,?_⟩
    conv=>whnf
    cases hn:nameB n with
    | false=>
      conv=>whnf
      repeat first | refine W1 ?_ | refine W3 ?_ | ((first | refine W2 hT hM [] ?_ | refine W4 ?_ | refine W5 ?_ | refine W6 ?_ | refine W7 ?_ rfl);conv=>whnf)
      split<;>simp
    | true=>
      conv=>whnf
      repeat first | refine W1 ?_ | refine W3 ?_ | ((first | refine W2 hT hM [] ?_ | refine W4 ?_ | refine W5 ?_ | refine W6 ?_ | refine W7 ?_ rfl);conv=>whnf)
      clear hb
      (split<;>rename_i hb<;>(try rw [hb])<;>(conv=>whnf))
      ·have h4:¬ l.length≤4:=by simp at hb;omega
       rw [if_neg h4]
       repeat first | refine W1 ?_ | refine W3 ?_ | ((first | refine W2 hT hM [] ?_ | refine W4 ?_ | refine W5 ?_ | refine W6 ?_ | refine W7 ?_ rfl);conv=>whnf)
      ·have h4:l.length≤4:=by simp at hb;omega
       clear hb
       rw [if_pos h4,Bool.and_true]
       repeat first | refine W1 ?_ | refine W3 ?_ | ((first | refine W2 hT hM [] ?_ | refine W4 ?_ | refine W5 ?_ | refine W6 ?_ | refine W7 ?_ rfl);conv=>whnf)
       refine WP.loop (α:=Nat) (fun i=>⟨[(1,.d (.int .i64 ((k+1:Nat):Int))),(2,.d (.bool g)),(3,.d (.ref [.str n,.list (l.map enT)] 0)),(36,.d (.int .i64 l.length)),(37,.d (.int .i64 i))],[],[]⟩) (fun i=>i≤l.length∧(l.take i).all (pU (!g) k)=true) (fun i=>l.length-i) 0 [] [] ?_ ?_ ?_
       ·((conv=>whnf);repeat (first | exact True.intro | (refine And.intro (by first | rfl | exact ⟨rfl,rfl,rfl⟩ | exact ⟨rfl,rfl,by simp⟩ | exact ⟨rfl,rfl⟩ | exact ⟨rfl,by simp⟩ | (simp;done) | (simp;omega)) ?_;conv=>whnf)))
       ·simp
       ·rintro i ⟨hi,ht⟩
        repeat first | refine W1 ?_ | refine W3 ?_ | ((first | refine W2 hT hM [] ?_ | refine W4 ?_ | refine W5 ?_ | refine W6 ?_ | refine W7 ?_ rfl);conv=>whnf)
        (split<;>rename_i hb<;>(try rw [hb])<;>(conv=>whnf))
        ·have hlt:i<l.length:=by simpa using hb
         clear hb
         repeat first | refine W1 ?_ | refine W3 ?_ | ((first | refine W2 hT hM [] ?_ | refine W4 ?_ | refine W5 ?_ | refine W6 ?_ | refine W7 ?_ rfl);conv=>whnf)
         refine ⟨by omega,_,vP hlt,rfl,?_⟩
         conv=>whnf
         refine ⟨by omega,?_⟩
         rw [show ((k+1:Nat):Int)-1=(k:Nat) by omega]
         conv=>whnf
         refine .inl ⟨_,ih l[i],.inl rfl,?_⟩
         conv=>whnf
         cases h1:pU (!g) k l[i] with
         | true=>
           conv=>whnf
           repeat first | refine W1 ?_ | refine W3 ?_ | ((first | refine W2 hT hM [] ?_ | refine W4 ?_ | refine W5 ?_ | refine W6 ?_ | refine W7 ?_ rfl);conv=>whnf)
           refine ⟨by omega,?_⟩
           conv=>whnf
           refine ⟨i+1,[],[],?_,⟨by omega,Ht hlt ht h1⟩,by omega⟩
           ((conv=>whnf);repeat (first | exact True.intro | (refine And.intro (by first | rfl | exact ⟨rfl,rfl,rfl⟩ | exact ⟨rfl,rfl,by simp⟩ | exact ⟨rfl,rfl⟩ | exact ⟨rfl,by simp⟩ | (simp;done) | (simp;omega)) ?_;conv=>whnf)))
         | false=>
           conv=>whnf
           repeat first | refine W1 ?_ | refine W3 ?_ | ((first | refine W2 hT hM [] ?_ | refine W4 ?_ | refine W5 ?_ | refine W6 ?_ | refine W7 ?_ rfl);conv=>whnf)
           rw [LX hlt h1]
        ·have:i=l.length:=by simp at hb;omega
         subst this
         rw [List.take_length] at ht
         repeat first | refine W1 ?_ | refine W3 ?_ | ((first | refine W2 hT hM [] ?_ | refine W4 ?_ | refine W5 ?_ | refine W6 ?_ | refine W7 ?_ rfl);conv=>whnf)
         rw [ht]
theorem Tryz.UL (t:Tm):Pure Tryz.prog 22 [tD t.name t.args] [.bool (pU false 4 t)]:=by
 have h:=Tryz.Js true 4 (by omega) t
 generalize t.name=n at *
 generalize t.args=l at *
 refine Pure.of_wp hT (nt:=_) (c:=_) Tryz.func22 rfl rfl rfl rfl (by kernel_rfl) ?_
 intro w0 ok0 β0
 repeat first | refine W1 ?_ | refine W3 ?_ | ((first | refine W2 hT hM [] ?_ | refine W4 ?_ | refine W5 ?_ | refine W6 ?_ | refine W7 ?_ rfl);conv=>whnf)
 refine .inl ⟨_,h,.inl rfl,?_⟩
 conv=>whnf
 repeat first | refine W1 ?_ | refine W3 ?_ | ((first | refine W2 hT hM [] ?_ | refine W4 ?_ | refine W5 ?_ | refine W6 ?_ | refine W7 ?_ rfl);conv=>whnf)
 rfl
end Go.Proofs.YtoifejgcmkencaaGreat
