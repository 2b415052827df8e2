/- Plain laws of names, terms and their orders. -/
import Derived.Test.YtdonenoiehdahaaGreatOwnTAnd
import Derived.WalkKit
import Derived.Lib.Bytealg
set_option linter.all false
namespace Go.Own
abbrev Str:=List UInt8
def rng (a b:Int) (c:UInt8):Bool:=decide (a≤(c.toNat:Int))&&decide ((c.toNat:Int)≤b)
def pJ (c:UInt8):Bool:=rng 97 122 c
def qY (c:UInt8):Bool:=rng 65 90 c
def mW (c:UInt8):Bool:=rng 48 57 c
def hyB (c:UInt8):Bool:=rng 45 45 c
def headB (p:UInt8→Bool):Str→Bool | []=>false | c::_=>p c
def lY (s:Str):Bool:=decide (1≤s.length)&&decide (s.length≤16)
def sIf:Str:=[105,102]
def Bf:Str:=[97,110,100]
def Oc:Str:=[110,111,116]
def pG (c:UInt8):Bool:=pJ c||(mW c||hyB c)
def Cc (c:UInt8):Bool:=qY c||(pJ c||mW c)
def nameB (s:Str):Bool:=lY s&&headB pJ s&&s.all pG&&!(s==sIf)&&!(s==Bf)&&!(s==Oc)
theorem qB {s:Str} (h:lY s=false∨headB pJ s=false∨s.all pG=false∨s=sIf∨s=Bf∨s=Oc):nameB s=false:=by
 unfold nameB;rcases h with h | h | h | rfl | rfl | rfl
 ·rw [h];rfl
 ·rw [h];simp
 ·rw [h];simp
 ·rfl
 ·rfl
 ·rfl
theorem Xo {s:Str} (h1:lY s=true) (h2:headB pJ s=true) (h3:s.all pG=true) (h4:s≠sIf) (h5:s≠Bf) (h6:s≠Oc):nameB s=true:=by
 unfold nameB;rw [h1,h2,h3];simp [h4,h5,h6]
def vF (s:Str):Bool:=lY s&&headB qY s&&s.all Cc
theorem IY {s:Str} (h:lY s=false∨headB qY s=false∨s.all Cc=false):vF s=false:=by
 unfold vF;rcases h with h | h | h<;>(rw [h];simp)
theorem YG {s:Str} (h1:lY s=true) (h2:headB qY s=true) (h3:s.all Cc=true):vF s=true:=by
 unfold vF;rw [h1,h2,h3];rfl
def numAt (n:Int):Str→Int
 | []=>n
 | c::s=>numAt (10*n+((c.toNat:Int)-48)) s
def bF (s:Str):Bool:=decide (1≤s.length)&&decide (s.length≤4)&&!(headB (fun c=>decide ((c.toNat:Int)=48)) s&&decide (1<s.length))&&s.all mW
def eu (s:Str):Int:=if bF s then numAt 0 s else 0
theorem Dx:∀ (l:Str) (n:Int) (c:UInt8),numAt n (l++[c])=10*numAt n l+((c.toNat:Int)-48)
 | [],n,c=>rfl
 | d::l,n,c=>Dx l _ c
theorem kH {c:UInt8}:mW c=true↔48≤(c.toNat:Int)∧(c.toNat:Int)≤57:=by simp [mW,rng]
theorem LG:∀ {l:Str} {n:Int},0≤n→l.all mW=true→0≤numAt n l∧numAt n l<(n+1)*10 ^ l.length
 | [],n,h,_=>by simp [numAt];omega
 | c::l,n,h,hd=>by
   simp only [List.all_cons,Bool.and_eq_true] at hd;obtain ⟨h1,h2⟩:=kH.1 hd.1;have:=LG (l:=l) (n:=10*n+((c.toNat:Int)-48)) (by omega) hd.2;refine ⟨this.1,Int.lt_of_lt_of_le this.2 ?_⟩;rw [List.length_cons,Int.pow_succ,← Int.mul_assoc,Int.mul_comm ((n+1)*10 ^ l.length) 10,← Int.mul_assoc];refine Int.mul_le_mul_of_nonneg_right (by omega) (Int.le_of_lt (Int.pow_pos (by decide)))
theorem su {l:Str} (hl:l.length≤4) (hd:l.all mW=true):0≤numAt 0 l∧numAt 0 l≤9999:=by
 have h:=LG (Int.le_refl 0) hd;have h5:l.length=0∨l.length=1∨l.length=2∨l.length=3∨l.length=4:=by omega
 rcases h5 with e | e | e | e | e<;>rw [e] at h<;>simp at h<;>omega
theorem lu {s:Str} (h:s.length<1∨4<s.length∨(headB (fun c=>decide ((c.toNat:Int)=48)) s=true∧1<s.length)∨s.all mW=false):bF s=false:=by
 unfold bF;rcases h with h | h | ⟨h,h'⟩ | h
 ·rw [decide_eq_false (p:=1≤s.length) (by omega)];rfl
 ·rw [decide_eq_false (p:=s.length≤4) (by omega)];simp
 ·rw [h,decide_eq_true (p:=1<s.length) h'];simp
 ·rw [h];simp
theorem Qx {s:Str} (h1:1≤s.length) (h2:s.length≤4) (h3:¬ (headB (fun c=>decide ((c.toNat:Int)=48)) s=true∧1<s.length)) (h4:s.all mW=true):bF s=true:=by
 unfold bF;rw [decide_eq_true h1,decide_eq_true h2,h4];simp only [Bool.and_true,Bool.true_and,Bool.not_eq_true',Bool.and_eq_false_iff,decide_eq_false_iff_not];cases hh:headB (fun c=>decide ((c.toNat:Int)=48)) s
 ·exact .inl rfl
 ·exact .inr fun h=>h3 ⟨hh,h⟩
inductive Tm where
 | mk (n:Str) (ts:List Tm)
def Tm.name:Tm→Str | .mk n _=>n
def Tm.args:Tm→List Tm | .mk _ ts=>ts
def eG (vars:Bool):Nat→Tm→Bool
 | 0,_=>false
 | k+1,.mk n ts=>if ts.length≤4 then (if ts.length=0 then nameB n||bF n||(vars&&vF n) else ts.all (eG vars k)&&nameB n) else false
def eF:Str→Str→Int
 | [],[]=>0
 | [],_::_=>-1
 | _::_,[]=>1
 | a::l,b::m=>if a<b then -1 else if b<a then 1 else eF l m
def aO (t:Tm):Int:=if t.args.length=0 then (if bF t.name then 0 else if vF t.name then 2 else 1) else 3
mutual
def aS:Tm→Tm→Int
 | .mk n l,.mk m k=>
   if aT (aO (.mk n l)) (aO (.mk m k))≠0 then aT (aO (.mk n l)) (aO (.mk m k)) else
   if aO (.mk n l)=0 then aT (eu n) (eu m) else
   if l.length≠k.length then aT l.length k.length else
   if eF n m≠0 then eF n m else bH l k
def bH:List Tm→List Tm→Int
 | [],[]=>0
 | [],_::_=>-1
 | _::_,[]=>1
 | a::l,b::m=>if aS a b≠0 then aS a b else bH l m
end
mutual
def okT:Tm→Prop
 | .mk _ l=>l.length≤9223372036854775807∧OE l
def OE:List Tm→Prop
 | []=>True
 | t::ts=>okT t∧OE ts
end
theorem Lm:∀ {l:List Tm},OE l↔∀ x∈l,okT x
 | []=>by simp [OE]
 | t::ts=>by rw [OE,Lm];simp
theorem aW {t:Tm}:okT t↔t.args.length≤9223372036854775807∧∀ x∈t.args,okT x:=by
 obtain ⟨n,l⟩:=t;rw [okT,Lm];exact Iff.rfl
theorem Tm.ind {p:Tm→Prop} (h:∀ t:Tm,(∀ x∈t.args,p x)→p t) (t:Tm):p t:=
 Tm.rec (motive_1:=p) (motive_2:=fun l=>∀ x∈l,p x) (fun n l hl=>h (.mk n l) hl) (fun x hx=>by cases hx)
  (fun a l ha hl x hx=>by
   rcases List.mem_cons.1 hx with rfl | hx
   ·exact ha
   ·exact hl x hx) t
theorem BR (a b:Tm):aS a b=if aT (aO a) (aO b)≠0 then aT (aO a) (aO b) else
  if aO a=0 then aT (eu a.name) (eu b.name) else
  if a.args.length≠b.args.length then aT a.args.length b.args.length else
  if eF a.name b.name≠0 then eF a.name b.name else bH a.args b.args:=by
 obtain ⟨n,l⟩:=a;obtain ⟨m,k⟩:=b;rw [aS];rfl
theorem xE (vars:Bool) (k:Nat) (t:Tm):eG vars (k+1) t=if t.args.length≤4 then (if t.args.length=0 then nameB t.name||bF t.name||(vars&&vF t.name) else t.args.all (eG vars k)&&nameB t.name) else false:=by
 obtain ⟨n,l⟩:=t;rw [eG];rfl
theorem E5 {l m:List Tm} {i:Nat} (h:i<l.length) (h':i<m.length):bH (l.drop i) (m.drop i)=if aS l[i] m[i]≠0 then aS l[i] m[i] else bH (l.drop (i+1)) (m.drop (i+1)):=by
 rw [List.drop_eq_getElem_cons h,List.drop_eq_getElem_cons h',bH]
theorem uV {l m:List Tm} {i:Nat} (h:i≤l.length) (h':i≤m.length) (he:i=l.length∨i=m.length):bH (l.drop i) (m.drop i)=aT l.length m.length:=by
 unfold aT;rcases he with rfl | rfl
 ·rw [List.drop_length];rcases Nat.lt_or_ge l.length m.length with hlt | hge
  ·rw [List.drop_eq_getElem_cons hlt,bH,if_pos (by omega)]
  ·have:l.length=m.length:=(by omega);rw [this,List.drop_length,bH,if_neg (by omega),if_neg (by omega)]
 ·rw [List.drop_length];rcases Nat.lt_or_ge m.length l.length with hlt | hge
  ·rw [List.drop_eq_getElem_cons hlt,bH,if_neg (by omega),if_pos (by omega)]
  ·have:l.length=m.length:=(by omega);rw [← this,List.drop_length,bH,if_neg (by omega),if_neg (by omega)]
end Go.Own
namespace Go.Proofs.YtdonenoiehdahaaGreat
open Go Go.Abs Go.Own
attribute [local irreducible] WP
def enC (c:UInt8):D := .int .u8 c.toNat
theorem Tryz.lower (c:UInt8):Pure Tryz.prog 119 [enC c] [.bool (pJ c)]:=by
 refine Pure.of_wp hT (nt:=_) (c:=_) Tryz.func119 rfl rfl rfl rfl (by kernel_rfl) ?_;intro w0 ok0 β0;repeat (refine gw rfl ?_;conv=>whnf)
 (split<;>rename_i hb<;>(try rw [hb])<;>(conv=>whnf))<;>repeat (refine gw rfl ?_;conv=>whnf)<;>(simp [pJ,rng] at hb ⊢<;>omega)
theorem Tryz.upper (c:UInt8):Pure Tryz.prog 149 [enC c] [.bool (qY c)]:=by
 refine Pure.of_wp hT (nt:=_) (c:=_) Tryz.func149 rfl rfl rfl rfl (by kernel_rfl) ?_;intro w0 ok0 β0;repeat (refine gw rfl ?_;conv=>whnf)
 (split<;>rename_i hb<;>(try rw [hb])<;>(conv=>whnf))<;>repeat (refine gw rfl ?_;conv=>whnf)<;>(simp [qY,rng] at hb ⊢<;>omega)
theorem Tryz.digit (c:UInt8):Pure Tryz.prog 100 [enC c] [.bool (mW c)]:=by
 refine Pure.of_wp hT (nt:=_) (c:=_) Tryz.func100 rfl rfl rfl rfl (by kernel_rfl) ?_;intro w0 ok0 β0;repeat (refine gw rfl ?_;conv=>whnf)
 (split<;>rename_i hb<;>(try rw [hb])<;>(conv=>whnf))<;>repeat (refine gw rfl ?_;conv=>whnf)<;>(simp [mW,rng] at hb ⊢<;>omega)
theorem iL {s:Str} {i:Nat} (h:i<s.length):s[((i:Int)).toNat]?=some s[i]:=by simp [h]
theorem uo {s:Str} {p:UInt8→Bool} {i:Nat} (h:i<s.length) (ht:(s.take i).all p=true) (hp:p s[i]=true):(s.take (i+1)).all p=true:=by
 rw [List.take_succ_eq_append_getElem h,List.all_append,ht];simp [hp]
theorem vw {s:Str} {p:UInt8→Bool} {i:Nat} (h:i<s.length) (hp:p s[i]=false):s.all p=false:=by
 rw [List.all_eq_false];exact ⟨_,List.getElem_mem h,by simp [hp]⟩
theorem Jv {s:Str} (h:decide ((s.length:Int)<1)=true):lY s=false:=by
 simp at h;simp only [lY];rw [decide_eq_false (by omega)];rfl
theorem Ju {s:Str} (h:decide ((s.length:Int)>16)=true):lY s=false:=by
 simp only [decide_eq_true_eq] at h;simp only [lY];rw [decide_eq_false (p:=s.length≤16) (by omega)];simp
theorem OL {s:Str} (h:decide ((s.length:Int)<1)=false) (h':decide ((s.length:Int)>16)=false):lY s=true:=by
 simp only [decide_eq_false_iff_not] at h h';simp only [lY];rw [decide_eq_true (by omega),decide_eq_true (by omega)];rfl
theorem Tryz.DK (s:Str):Pure Tryz.prog 81 [.str s] [.bool (nameB s)]:=by
 refine Pure.of_wp hT (nt:=_) (c:=_) Tryz.func81 rfl rfl rfl rfl (by kernel_rfl) ?_;intro w0 ok0 β0;repeat (refine gw rfl ?_;conv=>whnf)
 (split<;>rename_i hb<;>(try rw [hb])<;>(conv=>whnf))
 ·repeat (refine gw rfl ?_;conv=>whnf)
  rw [qB (.inl (Jv hb))]
 (split<;>rename_i hb<;>(try rw [hb])<;>(conv=>whnf))
 ·repeat (refine gw rfl ?_;conv=>whnf)
  rw [qB (.inl (Ju hb))]
 have hlen:=OL (by assumption) hb;clear hb;cases s with
 | nil=>simp [lY] at hlen
 | cons c s=>
 refine ⟨by omega,c,rfl,?_⟩;conv=>whnf
 refine .inl ⟨_,Tryz.lower c,.inl rfl,?_⟩;conv=>whnf
 cases hc:pJ c with
 | false=>
   (conv=>whnf);(repeat (refine gw rfl ?_;conv=>whnf));rw [qB (.inr (.inl (show headB pJ (c::s)=false from hc)))]
 | true=>
 conv=>whnf
 (split<;>rename_i hb<;>(try rw [hb])<;>(conv=>whnf))
 ·repeat (refine gw rfl ?_;conv=>whnf)
  rw [qB (.inr (.inr (.inr (.inl (by simpa [sIf] using hb)))))]
 have e1:c::s≠sIf:=by simpa [sIf] using hb
 clear hb;(split<;>rename_i hb<;>(try rw [hb])<;>(conv=>whnf))
 ·repeat (refine gw rfl ?_;conv=>whnf)
  rw [qB (.inr (.inr (.inr (.inr (.inl (by simpa [Bf] using hb))))))]
 have e2:c::s≠Bf:=by simpa [Bf] using hb
 clear hb;repeat (refine gw rfl ?_;conv=>whnf)
 (split<;>rename_i hb<;>(try rw [hb])<;>(conv=>whnf))
 ·repeat (refine gw rfl ?_;conv=>whnf)
  rw [qB (.inr (.inr (.inr (.inr (.inr (by simpa [Oc] using hb))))))]
 have e3:c::s≠Oc:=by simpa [Oc] using hb
 clear hb;have hh:headB pJ (c::s)=true:=hc;generalize c::s=s at *;have hl16:s.length≤16:=by simp [lY] at hlen;omega
 repeat (refine gw rfl ?_;conv=>whnf)
 refine WP.loop (α:=Nat) (fun i=>⟨[(0,.d (.str s)),(31,.d (.int .i64 s.length)),(32,.d (.int .i64 i))],[],[]⟩) (fun i=>i≤s.length∧(s.take i).all pG=true) (fun i=>s.length-i) 0 [] [] ?_ ?_ ?_
 ·((conv=>whnf);repeat (first | exact ⟨⟩ | (refine ⟨by first | rfl | (simp;done) | (simp;omega),?_⟩;conv=>whnf)))
 ·simp
 ·rintro i ⟨hi,ht⟩;repeat (refine gw rfl ?_;conv=>whnf)
  (split<;>rename_i hb<;>(try rw [hb])<;>(conv=>whnf))
  ·have hlt:i<s.length:=(by simpa using hb);clear hb;(repeat (refine gw rfl ?_;conv=>whnf));refine ⟨by omega,_,iL hlt,?_⟩;(conv=>whnf);refine .inl ⟨_,Tryz.lower s[i],.inl rfl,?_⟩;(conv=>whnf);have fin:pG s[i]=true→_:=fun hn=>uo hlt ht hn
   cases h1:pJ s[i] with
   | true=>
     (conv=>whnf);(repeat (refine gw rfl ?_;conv=>whnf));refine ⟨by omega,?_⟩;(conv=>whnf);refine ⟨i+1,[],[],?_,⟨by omega,fin (by simp [pG,h1])⟩,by omega⟩;((conv=>whnf);repeat (first | exact ⟨⟩ | (refine ⟨by first | rfl | (simp;done) | (simp;omega),?_⟩;conv=>whnf)))
   | false=>
     (conv=>whnf);refine ⟨by omega,_,iL hlt,?_⟩;(conv=>whnf);refine .inl ⟨_,Tryz.digit s[i],.inl rfl,?_⟩;(conv=>whnf);cases h2:mW s[i] with
     | true=>
       (conv=>whnf);(repeat (refine gw rfl ?_;conv=>whnf));refine ⟨by omega,?_⟩;(conv=>whnf);refine ⟨i+1,[],[],?_,⟨by omega,fin (by simp [pG,h2])⟩,by omega⟩;((conv=>whnf);repeat (first | exact ⟨⟩ | (refine ⟨by first | rfl | (simp;done) | (simp;omega),?_⟩;conv=>whnf)))
     | false=>
       (conv=>whnf);refine ⟨by omega,_,iL hlt,?_⟩;(conv=>whnf);(repeat (refine gw rfl ?_;conv=>whnf));(split<;>rename_i hb<;>(try rw [hb])<;>(conv=>whnf))
       ·(repeat (refine gw rfl ?_;conv=>whnf));rw [qB (.inr (.inr (.inl (vw hlt (by simp [pG,h1,h2,hyB,rng] at hb ⊢;omega)))))]
       ·(repeat (refine gw rfl ?_;conv=>whnf));refine ⟨by omega,?_⟩;(conv=>whnf);refine ⟨i+1,[],[],?_,⟨by omega,fin (by simp [pG,h1,h2,hyB,rng] at hb ⊢;omega)⟩,by omega⟩;((conv=>whnf);repeat (first | exact ⟨⟩ | (refine ⟨by first | rfl | (simp;done) | (simp;omega),?_⟩;conv=>whnf)))
  ·have:i=s.length:=(by simp at hb;omega);subst this;rw [List.take_length] at ht;(repeat (refine gw rfl ?_;conv=>whnf));rw [Xo hlen hh ht e1 e2 e3]
theorem wrap_u8 {n:Int} (h:0≤n) (h':n<256):IntKind.u8.wrap n=n:=by
 unfold IntKind.wrap;simp [IntKind.bits,IntKind.signed];omega
theorem KG {s:Str} (h:1≤s.length):∃ c t,s=c::t:=by
 cases s with
 | nil=>simp at h
 | cons c t=>exact ⟨c,t,rfl⟩
theorem Dy {s:Str} {i:Nat} (h:i<s.length):numAt 0 (s.take (i+1))=10*numAt 0 (s.take i)+((s[i].toNat:Int)-48):=by
 rw [List.take_succ_eq_append_getElem h,Dx]
theorem uD {s:Str} {i:Nat} (hs:s.length≤4) (hd:(s.take i).all mW=true):0≤numAt 0 (s.take i)∧numAt 0 (s.take i)≤9999:=su (by simp;omega) hd
theorem Tryz.Ls (s:Str):Pure Tryz.prog 59 [.str s] [.int .i64 (eu s),.bool (bF s)]:=by
 refine Pure.of_wp hT (nt:=_) (c:=_) Tryz.func59 rfl rfl rfl rfl (by kernel_rfl) ?_;intro w0 ok0 β0;have no:bF s=false→[D.int .i64 0,.bool false]=[D.int .i64 (eu s),.bool (bF s)]:=fun h=>by unfold eu;rw [h];rfl
 have yes:bF s=true→[D.int .i64 (numAt 0 s),.bool true]=[D.int .i64 (eu s),.bool (bF s)]:=fun h=>by unfold eu;rw [h];rfl
 repeat (refine gw rfl ?_;conv=>whnf)
 (split<;>rename_i hb<;>(try rw [hb])<;>(conv=>whnf))
 ·repeat (refine gw rfl ?_;conv=>whnf)
  exact no (lu (.inl (by simp only [decide_eq_true_eq] at hb;omega)))
 (split<;>rename_i hb<;>(try rw [hb])<;>(conv=>whnf))
 ·repeat (refine gw rfl ?_;conv=>whnf)
  exact no (lu (.inr (.inl (by simp only [decide_eq_true_eq] at hb;omega))))
 rename_i _ h1 _;have hl1:1≤s.length:=by simp only [decide_eq_false_iff_not] at h1;omega
 have hl4:s.length≤4:=by simp only [decide_eq_false_iff_not] at hb;omega
 clear h1 hb;obtain ⟨c,t,hs⟩:=KG hl1;by_cases h3:headB (fun c=>decide ((c.toNat:Int)=48)) s=true∧1<s.length
 ·rw [decide_eq_true (p:=(s.length:Int)>1) (by omega)];conv=>whnf
  refine ⟨by omega,c,by rw [hs];rfl,?_⟩;conv=>whnf
  rw [show ((c.toNat:Int)==48)=true by have:=h3.1;rw [hs] at this;simpa [headB] using this];conv=>whnf
  repeat (refine gw rfl ?_;conv=>whnf)
  exact no (lu (.inr (.inr (.inl h3))))
 (split<;>rename_i hb<;>(try rw [hb])<;>(conv=>whnf))<;>first
  | (refine ⟨by omega,c,by rw [hs];rfl,?_⟩
     conv=>whnf
     rw [show ((c.toNat:Int)==48)=false by
      simp only [decide_eq_true_eq] at hb;have h4:¬ headB (fun c=>decide ((c.toNat:Int)=48)) s=true:=fun h=>h3 ⟨h,by omega⟩
      rw [hs] at h4;simpa [headB] using h4]
     conv=>whnf)
  | skip
 all_goals
  repeat (refine gw rfl ?_;conv=>whnf)
  refine WP.loop (α:=Nat) (fun i=>⟨[(0,.d (.str s)),(4,.d (.int .i64 (numAt 0 (s.take i)))),(25,.d (.int .i64 s.length)),(26,.d (.int .i64 i))],[],[]⟩) (fun i=>i≤s.length∧(s.take i).all mW=true) (fun i=>s.length-i) 0 [] [] ?_ ?_ ?_
  ·((conv=>whnf);repeat (first | exact ⟨⟩ | (refine ⟨by first | rfl | (simp;done) | (simp;omega),?_⟩;conv=>whnf)))
  ·simp
  ·rintro i ⟨hi,ht⟩;(repeat (refine gw rfl ?_;conv=>whnf));(split<;>rename_i hb<;>(try rw [hb])<;>(conv=>whnf))
   ·have hlt:i<s.length:=(by simp only [decide_eq_true_eq] at hb;omega);clear hb;(repeat (refine gw rfl ?_;conv=>whnf));refine ⟨by omega,_,iL hlt,?_⟩;(conv=>whnf);refine .inl ⟨_,Tryz.digit s[i],.inl rfl,?_⟩;(conv=>whnf);cases h1:mW s[i] with
    | true=>
      obtain ⟨d1,d2⟩:=kH.1 h1;obtain ⟨n1,n2⟩:=uD hl4 ht;have ht':=uo hlt ht h1;obtain ⟨n3,n4⟩:=uD hl4 ht';have hn:=Dy hlt;(conv=>whnf);(repeat (refine gw rfl ?_;conv=>whnf));refine ⟨by omega,?_⟩;(conv=>whnf);refine ⟨by omega,_,iL hlt,?_⟩;(conv=>whnf);rw [wrap_u8 (by omega) (by omega)];refine ⟨by omega,?_⟩;(conv=>whnf);refine ⟨by omega,?_⟩;(conv=>whnf);(repeat (refine gw rfl ?_;conv=>whnf));refine ⟨by omega,?_⟩;(conv=>whnf);refine ⟨i+1,[],[],?_,⟨by omega,ht'⟩,by omega⟩;rw [hn];((conv=>whnf);repeat (first | exact ⟨⟩ | (refine ⟨by first | rfl | (simp;done) | (simp;omega),?_⟩;conv=>whnf)))
    | false=>
      (conv=>whnf);(repeat (refine gw rfl ?_;conv=>whnf));exact no (lu (.inr (.inr (.inr (vw hlt h1)))))
   ·have:i=s.length:=(by simp only [decide_eq_false_iff_not] at hb;omega);subst this;rw [List.take_length] at ht;rw [List.take_length];(repeat (refine gw rfl ?_;conv=>whnf));exact yes (Qx hl1 hl4 h3 ht)
theorem Tryz.LY (s:Str):Pure Tryz.prog 130 [.str s] [.bool (bF s)]:=by
 refine Pure.of_wp hT (nt:=_) (c:=_) Tryz.func130 rfl rfl rfl rfl (by kernel_rfl) ?_;intro w0 ok0 β0;repeat (refine gw rfl ?_;conv=>whnf)
 refine .inl ⟨_,Tryz.Ls s,.inl rfl,?_⟩;conv=>whnf
 repeat (refine gw rfl ?_;conv=>whnf)
theorem Tryz.Qb (s:Str):Pure Tryz.prog 97 [.str s] [.int .i64 (eu s)]:=by
 refine Pure.of_wp hT (nt:=_) (c:=_) Tryz.func97 rfl rfl rfl rfl (by kernel_rfl) ?_;intro w0 ok0 β0;repeat (refine gw rfl ?_;conv=>whnf)
 refine .inl ⟨_,Tryz.Ls s,.inl rfl,?_⟩;conv=>whnf
 repeat (refine gw rfl ?_;conv=>whnf)
theorem Tryz.Cb (s:Str):Pure Tryz.prog 131 [.str s] [.bool (vF s)]:=by
 refine Pure.of_wp hT (nt:=_) (c:=_) Tryz.func131 rfl rfl rfl rfl (by kernel_rfl) ?_;intro w0 ok0 β0;repeat (refine gw rfl ?_;conv=>whnf)
 (split<;>rename_i hb<;>(try rw [hb])<;>(conv=>whnf))
 ·repeat (refine gw rfl ?_;conv=>whnf)
  rw [IY (.inl (Jv hb))]
 (split<;>rename_i hb<;>(try rw [hb])<;>(conv=>whnf))
 ·repeat (refine gw rfl ?_;conv=>whnf)
  rw [IY (.inl (Ju hb))]
 have hlen:=OL (by assumption) hb;clear hb;cases s with
 | nil=>simp [lY] at hlen
 | cons c s=>
 refine ⟨by omega,c,rfl,?_⟩;conv=>whnf
 refine .inl ⟨_,Tryz.upper c,.inl rfl,?_⟩;conv=>whnf
 cases hc:qY c with
 | false=>
   (conv=>whnf);(repeat (refine gw rfl ?_;conv=>whnf));rw [IY (.inr (.inl (show headB qY (c::s)=false from hc)))]
 | true=>
 conv=>whnf
 have hh:headB qY (c::s)=true:=hc;generalize c::s=s at *;have hl16:s.length≤16:=by simp [lY] at hlen;omega
 repeat (refine gw rfl ?_;conv=>whnf)
 refine WP.loop (α:=Nat) (fun i=>⟨[(0,.d (.str s)),(19,.d (.int .i64 s.length)),(20,.d (.int .i64 i))],[],[]⟩) (fun i=>i≤s.length∧(s.take i).all Cc=true) (fun i=>s.length-i) 0 [] [] ?_ ?_ ?_
 ·((conv=>whnf);repeat (first | exact ⟨⟩ | (refine ⟨by first | rfl | (simp;done) | (simp;omega),?_⟩;conv=>whnf)))
 ·simp
 ·rintro i ⟨hi,ht⟩;repeat (refine gw rfl ?_;conv=>whnf)
  (split<;>rename_i hb<;>(try rw [hb])<;>(conv=>whnf))
  ·have hlt:i<s.length:=(by simpa using hb);clear hb;(repeat (refine gw rfl ?_;conv=>whnf));refine ⟨by omega,_,iL hlt,?_⟩;(conv=>whnf);refine .inl ⟨_,Tryz.lower s[i],.inl rfl,?_⟩;(conv=>whnf);have fin:Cc s[i]=true→_:=fun hn=>uo hlt ht hn
   cases h1:pJ s[i] with
   | true=>
     (conv=>whnf);(repeat (refine gw rfl ?_;conv=>whnf));refine ⟨by omega,?_⟩;(conv=>whnf);refine ⟨i+1,[],[],?_,⟨by omega,fin (by simp [Cc,h1])⟩,by omega⟩;((conv=>whnf);repeat (first | exact ⟨⟩ | (refine ⟨by first | rfl | (simp;done) | (simp;omega),?_⟩;conv=>whnf)))
   | false=>
     (conv=>whnf);refine ⟨by omega,_,iL hlt,?_⟩;(conv=>whnf);refine .inl ⟨_,Tryz.upper s[i],.inl rfl,?_⟩;(conv=>whnf);cases h2:qY s[i] with
     | true=>
       (conv=>whnf);(repeat (refine gw rfl ?_;conv=>whnf));refine ⟨by omega,?_⟩;(conv=>whnf);refine ⟨i+1,[],[],?_,⟨by omega,fin (by simp [Cc,h2])⟩,by omega⟩;((conv=>whnf);repeat (first | exact ⟨⟩ | (refine ⟨by first | rfl | (simp;done) | (simp;omega),?_⟩;conv=>whnf)))
     | false=>
       (conv=>whnf);refine ⟨by omega,_,iL hlt,?_⟩;(conv=>whnf);refine .inl ⟨_,Tryz.digit s[i],.inl rfl,?_⟩;(conv=>whnf);cases h3:mW s[i] with
       | true=>
         (conv=>whnf);(repeat (refine gw rfl ?_;conv=>whnf));refine ⟨by omega,?_⟩;(conv=>whnf);refine ⟨i+1,[],[],?_,⟨by omega,fin (by simp [Cc,h3])⟩,by omega⟩;((conv=>whnf);repeat (first | exact ⟨⟩ | (refine ⟨by first | rfl | (simp;done) | (simp;omega),?_⟩;conv=>whnf)))
       | false=>
         (conv=>whnf);(repeat (refine gw rfl ?_;conv=>whnf));rw [IY (.inr (.inr (vw hlt (by simp [Cc,h1,h2,h3]))))]
  ·have:i=s.length:=(by simp at hb;omega);subst this;rw [List.take_length] at ht;(repeat (refine gw rfl ?_;conv=>whnf));rw [YG hlen hh ht]
abbrev Sp:=Int×Int
def aad (p:Sp):D := .agg [.int .u8 p.1,.int .u8 p.2]
def kE (c:UInt8) (l:List Sp):Bool:=l.any fun p=>rng p.1 p.2 c
theorem Tryz.inC (c:UInt8) (l:List Sp) (hl:l.length≤1000000):Pure Tryz.prog 135 [enC c,.list (l.map aad)] [.bool (kE c l)]:=by
 refine Pure.of_wp hT (nt:=_) (c:=_) Tryz.func135 rfl rfl rfl rfl (by kernel_rfl) ?_;intro w0 ok0 β0;repeat (refine gw rfl ?_;conv=>whnf)
 refine WP.loop (α:=Nat) (fun i=>⟨[(0,.d (enC c)),(7,.d (.list (l.map aad))),(8,.d (.int .i64 l.length)),(9,.d (.int .i64 i))],[],[]⟩) (fun i=>i≤l.length∧kE c (l.take i)=false) (fun i=>l.length-i) 0 [] [] ?_ ?_ ?_
 ·((conv=>whnf);repeat (first | exact ⟨⟩ | (refine ⟨by first | rfl | (simp;done) | (simp;omega),?_⟩;conv=>whnf)))
 ·simp [kE]
 ·rintro i ⟨hi,ht⟩;repeat (refine gw rfl ?_;conv=>whnf)
  (split<;>rename_i hb<;>(try rw [hb])<;>(conv=>whnf))
  ·have hlt:i<l.length:=(by simpa using hb);clear hb;have hn:kE c (l.take (i+1))=rng l[i].1 l[i].2 c:=by
    unfold kE at ht ⊢;rw [List.take_succ_eq_append_getElem hlt,List.any_append,ht];simp
   (repeat (refine gw rfl ?_;conv=>whnf));refine ⟨by omega,_,ay hlt,rfl,?_⟩;(conv=>whnf);(repeat (refine gw rfl ?_;conv=>whnf));cases hc:rng l[i].1 l[i].2 c with
   | true=>
     have hc':=hc;simp only [rng,Bool.and_eq_true,decide_eq_true_eq] at hc';rw [decide_eq_true (p:=(c.toNat:Int)≥l[i].1) hc'.1];(conv=>whnf);rw [decide_eq_true (p:=(c.toNat:Int)≤l[i].2) hc'.2];(conv=>whnf);(repeat (refine gw rfl ?_;conv=>whnf));have:kE c l=true:=by
      unfold kE;rw [List.any_eq_true];exact ⟨_,List.getElem_mem hlt,hc⟩
     rw [this]
   | false=>
     rw [hc] at hn;(split<;>rename_i hb<;>(try rw [hb])<;>(conv=>whnf))
     ·have:decide ((c.toNat:Int)≤l[i].2)=false:=by
       unfold rng at hc;rw [show decide (l[i].1≤(c.toNat:Int))=true from hb] at hc
       simpa using hc
      rw [this];(conv=>whnf);(repeat (refine gw rfl ?_;conv=>whnf));refine ⟨by omega,?_⟩;(conv=>whnf);refine ⟨i+1,[],[],?_,⟨by omega,hn⟩,by omega⟩;((conv=>whnf);repeat (first | exact ⟨⟩ | (refine ⟨by first | rfl | (simp;done) | (simp;omega),?_⟩;conv=>whnf)))
     ·(repeat (refine gw rfl ?_;conv=>whnf));refine ⟨by omega,?_⟩;(conv=>whnf);refine ⟨i+1,[],[],?_,⟨by omega,hn⟩,by omega⟩;((conv=>whnf);repeat (first | exact ⟨⟩ | (refine ⟨by first | rfl | (simp;done) | (simp;omega),?_⟩;conv=>whnf)))
  ·have:i=l.length:=(by simp at hb;omega);subst this;rw [List.take_length] at ht;(repeat (refine gw rfl ?_;conv=>whnf));rw [ht]
def YK (a b c:Sp):D := .agg [.int .u8 a.1,.int .u8 a.2,.int .u8 b.1,.int .u8 b.2,.int .u8 c.1,.int .u8 c.2]
def spB (x y z:Sp) (s:Str):Bool:=lY s&&headB (fun c=>kE c [x]) s&&s.all (fun c=>kE c [x,y,z])
theorem Qk {x y z:Sp} {s:Str} (h:lY s=false∨headB (fun c=>kE c [x]) s=false∨s.all (fun c=>kE c [x,y,z])=false):spB x y z s=false:=by
 unfold spB;rcases h with h | h | h<;>(rw [h];simp)
theorem ZL {x y z:Sp} {s:Str} (h1:lY s=true) (h2:headB (fun c=>kE c [x]) s=true) (h3:s.all (fun c=>kE c [x,y,z])=true):spB x y z s=true:=by
 unfold spB;rw [h1,h2,h3];rfl
theorem Tryz.spelled (s:Str) (x y z:Sp):Pure Tryz.prog 109 [.str s,YK x y z] [.bool (spB x y z s)]:=by
 refine Pure.of_wp hT (nt:=_) (c:=_) Tryz.func109 rfl rfl rfl rfl (by kernel_rfl) ?_;intro w0 ok0 β0;repeat (refine gw rfl ?_;conv=>whnf)
 (split<;>rename_i hb<;>(try rw [hb])<;>(conv=>whnf))
 ·repeat (refine gw rfl ?_;conv=>whnf)
  rw [Qk (.inl (Jv hb))]
 (split<;>rename_i hb<;>(try rw [hb])<;>(conv=>whnf))
 ·repeat (refine gw rfl ?_;conv=>whnf)
  rw [Qk (.inl (Ju hb))]
 have hlen:=OL (by assumption) hb;clear hb;cases s with
 | nil=>simp [lY] at hlen
 | cons c s=>
 refine ⟨by omega,c,rfl,?_⟩;conv=>whnf
 refine ⟨⟨rfl,by decide,by decide,by decide⟩,?_⟩;conv=>whnf
 refine .inl ⟨_,Tryz.inC c [x] (by simp),.inl rfl,?_⟩;conv=>whnf
 cases hc:kE c [x] with
 | false=>
   (conv=>whnf);(repeat (refine gw rfl ?_;conv=>whnf));rw [Qk (.inr (.inl (show headB (fun c=>kE c [x]) (c::s)=false from hc)))]
 | true=>
 conv=>whnf
 have hh:headB (fun c=>kE c [x]) (c::s)=true:=hc;generalize c::s=s at *;have hl16:s.length≤16:=by simp [lY] at hlen;omega
 repeat (refine gw rfl ?_;conv=>whnf)
 refine WP.loop (α:=Nat) (fun i=>⟨[(0,.d (.str s)),(3,.d (.ref [.int .u8 x.1,.int .u8 x.2,.int .u8 y.1,.int .u8 y.2,.int .u8 z.1,.int .u8 z.2] 0)),(5,.d (.int .i64 i))],[],[]⟩) (fun i=>i≤s.length∧(s.take i).all (fun c=>kE c [x,y,z])=true) (fun i=>s.length-i) 0 [] [] ?_ ?_ ?_
 ·((conv=>whnf);repeat (first | exact ⟨⟩ | (refine ⟨by first | rfl | (simp;done) | (simp;omega),?_⟩;conv=>whnf)))
 ·simp
 ·rintro i ⟨hi,ht⟩;repeat (refine gw rfl ?_;conv=>whnf)
  (split<;>rename_i hb<;>(try rw [hb])<;>(conv=>whnf))
  ·have hlt:i<s.length:=(by simpa using hb);clear hb;(repeat (refine gw rfl ?_;conv=>whnf));refine ⟨by omega,_,iL hlt,?_⟩;(conv=>whnf);refine ⟨⟨rfl,by decide,by decide,by decide⟩,?_⟩;(conv=>whnf);refine .inl ⟨_,Tryz.inC s[i] [x,y,z] (by simp),.inl rfl,?_⟩;(conv=>whnf);cases h1:kE s[i] [x,y,z] with
   | true=>
     (conv=>whnf);(repeat (refine gw rfl ?_;conv=>whnf));refine ⟨by omega,?_⟩;(conv=>whnf);refine ⟨i+1,[],[],?_,⟨by omega,uo hlt ht h1⟩,by omega⟩;((conv=>whnf);repeat (first | exact ⟨⟩ | (refine ⟨by first | rfl | (simp;done) | (simp;omega),?_⟩;conv=>whnf)))
   | false=>
     (conv=>whnf);(repeat (refine gw rfl ?_;conv=>whnf));rw [Qk (.inr (.inr (vw hlt h1)))]
  ·have:i=s.length:=(by simp at hb;omega);subst this;rw [List.take_length] at ht;(repeat (refine gw rfl ?_;conv=>whnf));rw [ZL hlen hh ht]
theorem WI (s:Str):spB (97,122) (48,57) (45,45) s=(lY s&&headB pJ s&&s.all pG):=by
 have h1:(fun c=>kE c [(97,122)])=pJ:=by funext c;simp [kE,pJ]
 have h2:(fun c=>kE c [(97,122),(48,57),(45,45)])=pG:=by funext c;simp [kE,pG,pJ,mW,hyB]
 unfold spB;rw [h1,h2]
theorem YL (s:Str):spB (65,90) (97,122) (48,57) s=vF s:=by
 have h1:(fun c=>kE c [(65,90)])=qY:=by funext c;simp [kE,qY]
 have h2:(fun c=>kE c [(65,90),(97,122),(48,57)])=Cc:=by funext c;simp [kE,Cc,pJ,mW,qY]
 unfold spB vF;rw [h1,h2]
theorem Tryz.variable (s:Str):Pure Tryz.prog 141 [.str s] [.bool (vF s)]:=by
 refine Pure.of_wp hT (nt:=_) (c:=_) Tryz.func141 rfl rfl rfl rfl (by kernel_rfl) ?_;intro w0 ok0 β0;repeat (refine gw rfl ?_;conv=>whnf)
 (repeat (refine ⟨by first | rfl | omega,?_⟩;conv=>whnf));refine .inl ⟨_,Tryz.spelled s (65,90) (97,122) (48,57),.inl rfl,?_⟩;conv=>whnf
 repeat (refine gw rfl ?_;conv=>whnf)
 rw [YL]
theorem Tryz.name (s:Str):Pure Tryz.prog 73 [.str s] [.bool (nameB s)]:=by
 refine Pure.of_wp hT (nt:=_) (c:=_) Tryz.func73 rfl rfl rfl rfl (by kernel_rfl) ?_;intro w0 ok0 β0;repeat (refine gw rfl ?_;conv=>whnf)
 (repeat (refine ⟨by first | rfl | omega,?_⟩;conv=>whnf));refine .inl ⟨_,Tryz.spelled s (97,122) (48,57) (45,45),.inl rfl,?_⟩;conv=>whnf
 rw [WI];cases hs:lY s&&headB pJ s&&s.all pG with
 | false=>
   (conv=>whnf);(repeat (refine gw rfl ?_;conv=>whnf));unfold nameB;rw [hs];rfl
 | true=>
   (conv=>whnf);have e:nameB s=(!(s==sIf)&&!(s==Bf)&&!(s==Oc)):=(by unfold nameB;rw [hs];simp);(split<;>rename_i hb<;>(try rw [hb])<;>(conv=>whnf))
   ·have h1:s≠sIf:=(by simpa [sIf] using hb);clear hb;(split<;>rename_i hb<;>(try rw [hb])<;>(conv=>whnf))
    ·have h2:s≠Bf:=(by simpa [Bf] using hb);clear hb;(repeat (refine gw rfl ?_;conv=>whnf));rw [e,show (s==sIf)=false by simpa using h1,show (s==Bf)=false by simpa using h2];rfl
    ·have h2:s=Bf:=(by simpa [Bf] using hb);(repeat (refine gw rfl ?_;conv=>whnf));rw [e];simp [h2]
   ·have h1:s=sIf:=(by simpa [sIf] using hb);(repeat (refine gw rfl ?_;conv=>whnf));rw [e];simp [h1]
theorem Tryz.number (s:Str):Pure Tryz.prog 91 [.str s] [.int .i64 (eu s),.bool (bF s)]:=by
 refine Pure.of_wp hT (nt:=_) (c:=_) Tryz.func91 rfl rfl rfl rfl (by kernel_rfl) ?_;intro w0 ok0 β0;have no:bF s=false→[D.int .i64 0,.bool false]=[D.int .i64 (eu s),.bool (bF s)]:=fun h=>by unfold eu;rw [h];rfl
 have yes:bF s=true→numAt 0 s≤9999→[D.int .i64 (numAt 0 s),.bool (decide (numAt 0 s≤9999))]=[D.int .i64 (eu s),.bool (bF s)]:=fun h h'=>by unfold eu;rw [h,decide_eq_true h'];rfl
 repeat (refine gw rfl ?_;conv=>whnf)
 (split<;>rename_i hb<;>(try rw [hb])<;>(conv=>whnf))
 ·repeat (refine gw rfl ?_;conv=>whnf)
  exact no (lu (.inl (by simp only [decide_eq_true_eq] at hb;omega)))
 (split<;>rename_i hb<;>(try rw [hb])<;>(conv=>whnf))
 ·repeat (refine gw rfl ?_;conv=>whnf)
  exact no (lu (.inr (.inl (by simp only [decide_eq_true_eq] at hb;omega))))
 rename_i _ h1 _;have hl1:1≤s.length:=by simp only [decide_eq_false_iff_not] at h1;omega
 have hl4:s.length≤4:=by simp only [decide_eq_false_iff_not] at hb;omega
 clear h1 hb;obtain ⟨c,t,hs⟩:=KG hl1;refine ⟨by omega,c,by rw [hs];rfl,?_⟩;conv=>whnf
 by_cases h3:headB (fun c=>decide ((c.toNat:Int)=48)) s=true∧1<s.length
 ·rw [show ((c.toNat:Int)==48)=true by have:=h3.1;rw [hs] at this;simpa [headB] using this];conv=>whnf
  rw [decide_eq_true (p:=(s.length:Int)>1) (by omega)];conv=>whnf
  repeat (refine gw rfl ?_;conv=>whnf)
  exact no (lu (.inr (.inr (.inl h3))))
 (split<;>rename_i hb<;>(try rw [hb])<;>(conv=>whnf))<;>first
  | (rw [decide_eq_false (p:=(s.length:Int)>1) (fun h=>h3 ⟨by rw [hs];simpa [headB] using hb,by omega⟩)]
     conv=>whnf)
  | skip
 all_goals
  repeat (refine gw rfl ?_;conv=>whnf)
  refine WP.loop (α:=Nat) (fun i=>⟨[(0,.d (.str s)),(4,.d (.int .i64 (numAt 0 (s.take i)))),(5,.d (.int .i64 i))],[],[]⟩) (fun i=>i≤s.length∧(s.take i).all mW=true) (fun i=>s.length-i) 0 [] [] ?_ ?_ ?_
  ·((conv=>whnf);repeat (first | exact ⟨⟩ | (refine ⟨by first | rfl | (simp;done) | (simp;omega),?_⟩;conv=>whnf)))
  ·simp
  ·rintro i ⟨hi,ht⟩;(repeat (refine gw rfl ?_;conv=>whnf));(split<;>rename_i hb<;>(try rw [hb])<;>(conv=>whnf))
   ·have hlt:i<s.length:=(by simp only [decide_eq_true_eq] at hb;omega);clear hb;(repeat (refine gw rfl ?_;conv=>whnf));refine ⟨by omega,_,iL hlt,?_⟩;(conv=>whnf);cases h1:mW s[i] with
    | true=>
      obtain ⟨d1,d2⟩:=kH.1 h1;obtain ⟨n1,n2⟩:=uD hl4 ht;have ht':=uo hlt ht h1;obtain ⟨n3,n4⟩:=uD hl4 ht';have hn:=Dy hlt;rw [decide_eq_false (p:=(s[i].toNat:Int)<48) (by omega)];(conv=>whnf);refine ⟨by omega,_,iL hlt,?_⟩;(conv=>whnf);rw [decide_eq_false (p:=(s[i].toNat:Int)>57) (by omega)];(conv=>whnf);(repeat (refine gw rfl ?_;conv=>whnf));refine ⟨by omega,?_⟩;(conv=>whnf);refine ⟨by omega,_,iL hlt,?_⟩;(conv=>whnf);rw [wrap_u8 (by omega) (by omega)];refine ⟨by omega,?_⟩;(conv=>whnf);refine ⟨by omega,?_⟩;(conv=>whnf);(repeat (refine gw rfl ?_;conv=>whnf));refine ⟨by omega,?_⟩;(conv=>whnf);refine ⟨i+1,[],[],?_,⟨by omega,ht'⟩,by omega⟩;rw [hn];((conv=>whnf);repeat (first | exact ⟨⟩ | (refine ⟨by first | rfl | (simp;done) | (simp;omega),?_⟩;conv=>whnf)))
    | false=>
      have h2:(s[i].toNat:Int)<48∨(s[i].toNat:Int)>57:=by
       have:¬ (48≤(s[i].toNat:Int)∧(s[i].toNat:Int)≤57):=fun h=>by rw [kH.2 h] at h1;cases h1
       omega
      by_cases h5:(s[i].toNat:Int)<48
      ·rw [decide_eq_true (p:=(s[i].toNat:Int)<48) h5];(conv=>whnf);(repeat (refine gw rfl ?_;conv=>whnf));exact no (lu (.inr (.inr (.inr (vw hlt h1)))))
      ·rw [decide_eq_false (p:=(s[i].toNat:Int)<48) h5];(conv=>whnf);refine ⟨by omega,_,iL hlt,?_⟩;(conv=>whnf);rw [decide_eq_true (p:=(s[i].toNat:Int)>57) (by omega)];(conv=>whnf);(repeat (refine gw rfl ?_;conv=>whnf));exact no (lu (.inr (.inr (.inr (vw hlt h1)))))
   ·have:i=s.length:=(by simp only [decide_eq_false_iff_not] at hb;omega);subst this;rw [List.take_length] at ht;rw [List.take_length];(repeat (refine gw rfl ?_;conv=>whnf));exact yes (Qx hl1 hl4 h3 ht) (su hl4 ht).2
theorem Tryz.Xg (s:Str):Pure Tryz.prog 150 [.str s] [.bool (bF s)]:=by
 refine Pure.of_wp hT (nt:=_) (c:=_) Tryz.func150 rfl rfl rfl rfl (by kernel_rfl) ?_;intro w0 ok0 β0;repeat (refine gw rfl ?_;conv=>whnf)
 refine .inl ⟨_,Tryz.number s,.inl rfl,?_⟩;conv=>whnf
 repeat (refine gw rfl ?_;conv=>whnf)
end Go.Proofs.YtdonenoiehdahaaGreat
namespace Go.Proofs.YtdonenoiehdahaaGreat
open Go Go.Abs Go.Own Go.RowKit
attribute [local irreducible] WP
theorem Nu:∀ a b:Str,Lib.compareBytes a b=eF a b
 | [],[]=>rfl
 | [],_::_=>rfl
 | _::_,[]=>rfl
 | a::l,b::m=>by unfold Lib.compareBytes eF;rw [Nu l m]
set_option maxHeartbeats 1000000 in
set_option maxRecDepth 100000 in
theorem Tryz.Zz (a b:Str) (w:World):Calls Tryz.prog 142 #[.string ⟨a.toArray⟩,.string ⟨b.toArray⟩] w fun e w'=>e = .returned (.int .i64 (eF a b))∧w'=w:=by
 go_enter Tryz.func142,Tryz.ntmps142
 go_wp2
 rw [run_callFunc_extern Tryz.func155 (by kernel_rfl) (by kernel_rfl) (by kernel_rfl) (e:=Extern.BytealgCompare.compare) (by kernel_rfl)];rw [Lib.run_compareString];simp only [Result.andThen];rw [Oper.upon_value]
 go_wp2
 go_ret
 exact ⟨by rw [← Nu];rfl,rfl⟩
theorem Tryz.X8 (a b:Str):Pure Tryz.prog 142 [.str a,.str b] [.int .i64 (eF a b)]:=by
 refine ⟨⟨_,Tryz.func142,by kernel_rfl,rfl⟩,fun ok w vs hgl hokb hsz hrd=>?_⟩;obtain ⟨v0,v1,rfl⟩:∃ v0 v1,vs=#[v0,v1]:=by
  match vs,hsz with
  | ⟨[v0,v1]⟩,_=>exact ⟨v0,v1,rfl⟩
 have h0:=hrd 0 v0 _ rfl rfl;have h1:=hrd 1 v1 _ rfl rfl;cases h0;cases h1;refine (Tryz.Zz a b w).mono ?_;rintro e w' ⟨rfl,rfl⟩;exact ⟨_,rfl,Frame.refl _ _,.int _ _⟩
theorem Tryz.Cm (a b:Str):Pure Tryz.prog 124 [.str a,.str b] [.int .i64 (eF a b)]:=by
 refine Pure.of_wp hT (nt:=_) (c:=_) Tryz.func124 rfl rfl rfl rfl (by kernel_rfl) ?_;intro w0 ok0 β0;repeat (refine gw rfl ?_;conv=>whnf)
 refine .inl ⟨_,Tryz.X8 a b,.inl rfl,?_⟩;conv=>whnf
 repeat (refine gw rfl ?_;conv=>whnf)
theorem uI:∀ a b:Str,Op.bytesLess a b=decide (eF a b<0)
 | [],[]=>by simp [Op.bytesLess,eF]
 | [],_::_=>by simp [Op.bytesLess,eF]
 | _::_,[]=>by simp [Op.bytesLess,eF]
 | a::l,b::m=>by
   unfold Op.bytesLess eF;by_cases h:a<b
   ·simp [h]
   ·by_cases h':b<a
    ·have:a≠b:=(by rintro rfl;exact h h');simp [h,h',this]
    ·have:a=b:=UInt8.le_antisymm (UInt8.not_lt.1 h') (UInt8.not_lt.1 h);subst this;simp [UInt8.lt_irrefl,uI l m]
theorem nU:∀ {a b:Str},eF a b=0↔a=b
 | [],[]=>by simp [eF]
 | [],_::_=>by simp [eF]
 | _::_,[]=>by simp [eF]
 | a::l,b::m=>by
   unfold eF;by_cases h:a<b
   ·have:a≠b:=(by rintro rfl;exact UInt8.lt_irrefl _ h);simp [h,this]
   ·by_cases h':b<a
    ·have:a≠b:=(by rintro rfl;exact h h');simp [h,h',this]
    ·have:a=b:=UInt8.le_antisymm (UInt8.not_lt.1 h') (UInt8.not_lt.1 h);subst this;simp [UInt8.lt_irrefl,nU]
theorem Fa:∀ a b:Str,eF a b=-1∨eF a b=0∨eF a b=1
 | [],[]=>by simp [eF]
 | [],_::_=>by simp [eF]
 | _::_,[]=>by simp [eF]
 | a::l,b::m=>by
   unfold eF;split
   ·exact .inl rfl
   ·split
    ·exact .inr (.inr rfl)
    ·exact Fa l m
theorem Tryz.RD (a b:Str):Pure Tryz.prog 98 [.str a,.str b] [.int .i64 (eF a b)]:=by
 refine Pure.of_wp hT (nt:=_) (c:=_) Tryz.func98 rfl rfl rfl rfl (by kernel_rfl) ?_;intro w0 ok0 β0;have hr:=Fa a b;repeat (refine gw rfl ?_;conv=>whnf)
 (split<;>rename_i hb<;>(try rw [hb])<;>(conv=>whnf))
 ·rw [uI] at hb;simp only [decide_eq_true_eq] at hb;repeat (refine gw rfl ?_;conv=>whnf)
  rw [show eF a b=-1 by omega]
 repeat (refine gw rfl ?_;conv=>whnf)
 (split<;>rename_i hb<;>(try rw [hb])<;>(conv=>whnf))
 ·have h1:¬ eF a b<0:=fun h=>by rw [uI,decide_eq_true h] at hb;simp at hb
  have h2:eF a b≠0:=fun h=>by rw [nU.1 h] at hb;simp at hb
  repeat (refine gw rfl ?_;conv=>whnf)
  rw [show eF a b=1 by omega]
 ·have h2:eF a b=0:=by
   rename_i h1 _;rw [uI] at h1 hb;rw [h1] at hb;simp at hb;exact nU.2 hb
  repeat (refine gw rfl ?_;conv=>whnf)
  rw [h2]
theorem Tryz.sign (a b:Int):Pure Tryz.prog 95 [.int .i64 a,.int .i64 b] [.int .i64 (aT a b)]:=by
 refine Pure.of_wp hT (nt:=_) (c:=_) Tryz.func95 rfl rfl rfl rfl (by kernel_rfl) ?_;intro w0 ok0 β0;unfold aT;repeat (refine gw rfl ?_;conv=>whnf)
 (split<;>rename_i hb<;>(try rw [hb])<;>(conv=>whnf))
 ·simp only [decide_eq_true_eq] at hb;repeat (refine gw rfl ?_;conv=>whnf)
  rw [if_pos hb]
 ·repeat (refine gw rfl ?_;conv=>whnf)
  simp only [decide_eq_false_iff_not] at hb;rw [if_neg hb];(split<;>rename_i hb<;>(try rw [hb])<;>(conv=>whnf))
  ·simp only [decide_eq_true_eq] at hb;(repeat (refine gw rfl ?_;conv=>whnf));rw [if_pos hb]
  ·simp only [decide_eq_false_iff_not] at hb;(repeat (refine gw rfl ?_;conv=>whnf));rw [if_neg (by omega)]
theorem Tryz.order (a b:Int):Pure Tryz.prog 123 [.int .i64 a,.int .i64 b] [.int .i64 (aT a b)]:=by
 refine Pure.of_wp hT (nt:=_) (c:=_) Tryz.func123 rfl rfl rfl rfl (by kernel_rfl) ?_;intro w0 ok0 β0;unfold aT;repeat (refine gw rfl ?_;conv=>whnf)
 (split<;>rename_i hb<;>(try rw [hb])<;>(conv=>whnf))
 ·simp only [decide_eq_true_eq] at hb;repeat (refine gw rfl ?_;conv=>whnf)
  rw [if_pos hb]
 ·repeat (refine gw rfl ?_;conv=>whnf)
  simp only [decide_eq_false_iff_not] at hb;rw [if_neg hb];(split<;>rename_i hb<;>(try rw [hb])<;>(conv=>whnf))
  ·simp only [decide_eq_true_eq] at hb;(repeat (refine gw rfl ?_;conv=>whnf));rw [if_pos hb]
  ·simp only [decide_eq_false_iff_not] at hb;(repeat (refine gw rfl ?_;conv=>whnf));rw [if_neg (by omega)]
end Go.Proofs.YtdonenoiehdahaaGreat
namespace Go.Proofs.YtdonenoiehdahaaGreat
open Go Go.Abs Go.Own
attribute [local irreducible] WP
mutual
def enT:Tm→D
 | .mk n l => .agg [.str n,.list (XU l)]
def XU:List Tm→List D
 | []=>[]
 | t::ts=>enT t::XU ts
end
theorem Nc:∀ l:List Tm,XU l=l.map enT
 | []=>rfl
 | t::ts=>by rw [XU,Nc ts];rfl
def tD (n:Str) (l:List Tm):D := .agg [.str n,.list (l.map enT)]
theorem bQ (t:Tm):enT t=tD t.name t.args:=by obtain ⟨n,l⟩:=t;rw [enT,Nc];rfl
theorem dB {l:List Tm} {i:Nat} (h:i<l.length):(l.map enT)[((i:Int)).toNat]?=some (tD l[i].name l[i].args):=by rw [← bQ];exact ay h
theorem Tryz.PE (n:Str) (l:List Tm):Pure Tryz.prog 147 [tD n l] [.bool (decide (l.length=0)&&(nameB n||bF n))]:=by
 refine Pure.of_wp hT (nt:=_) (c:=_) Tryz.func147 rfl rfl rfl rfl (by kernel_rfl) ?_;intro w0 ok0 β0;repeat (refine gw rfl ?_;conv=>whnf)
 (split<;>rename_i hb<;>(try rw [hb])<;>(conv=>whnf))
 ·have h0:l.length=0:=by simpa using hb
  rw [decide_eq_true h0];refine .inl ⟨_,Tryz.DK n,.inl rfl,?_⟩;conv=>whnf
  cases hn:nameB n with
  | true=>
    (conv=>whnf);(repeat (refine gw rfl ?_;conv=>whnf));rfl
  | false=>
    (conv=>whnf);refine .inl ⟨_,Tryz.LY n,.inl rfl,?_⟩;(conv=>whnf);(repeat (refine gw rfl ?_;conv=>whnf));rfl
 ·have h0:l.length≠0:=by simpa using hb
  rw [decide_eq_false h0];repeat (refine gw rfl ?_;conv=>whnf)
  rfl
theorem Tryz.Xy (n:Str) (l:List Tm):Pure Tryz.prog 148 [tD n l] [.bool (decide (l.length=0)&&vF n)]:=by
 refine Pure.of_wp hT (nt:=_) (c:=_) Tryz.func148 rfl rfl rfl rfl (by kernel_rfl) ?_;intro w0 ok0 β0;repeat (refine gw rfl ?_;conv=>whnf)
 (split<;>rename_i hb<;>(try rw [hb])<;>(conv=>whnf))
 ·have h0:l.length=0:=by simpa using hb
  rw [decide_eq_true h0];refine .inl ⟨_,Tryz.Cb n,.inl rfl,?_⟩;conv=>whnf
  repeat (refine gw rfl ?_;conv=>whnf)
  rfl
 ·have h0:l.length≠0:=by simpa using hb
  rw [decide_eq_false h0];repeat (refine gw rfl ?_;conv=>whnf)
  rfl
theorem IW {l:List Tm} {p:Tm→Bool} {i:Nat} (h:i<l.length) (ht:(l.take i).all p=true) (hp:p l[i]=true):(l.take (i+1)).all p=true:=by
 rw [List.take_succ_eq_append_getElem h,List.all_append,ht];simp [hp]
theorem NM {l:List Tm} {p:Tm→Bool} {i:Nat} (h:i<l.length) (hp:p l[i]=false):l.all p=false:=by
 rw [List.all_eq_false];exact ⟨_,List.getElem_mem h,by simp [hp]⟩
theorem Tryz.Kq (g:Bool):∀ (k:Nat),k≤1000→∀ t:Tm,Pure Tryz.prog 129 [tD t.name t.args,.int .i64 k,.bool g] [.bool (eG (!g) k t)]
 | 0,_,t=>by
   obtain ⟨n,l⟩:=t;refine Pure.of_wp hT (nt:=_) (c:=_) Tryz.func129 rfl rfl rfl rfl (by kernel_rfl) ?_;intro w0 ok0 β0;(repeat (refine gw rfl ?_;conv=>whnf));rw [eG]
 | k+1,hk,t=>by
   have ih:=Tryz.Kq g k (by omega);rw [xE];generalize t.name=n;generalize t.args=l;refine Pure.of_wp hT (nt:=_) (c:=_) Tryz.func129 rfl rfl rfl rfl (by kernel_rfl) ?_;intro w0 ok0 β0;(repeat (refine gw rfl ?_;conv=>whnf));rw [decide_eq_false (p:=(((k+1:Nat):Int)<1)) (by omega)];(conv=>whnf);(repeat (refine gw rfl ?_;conv=>whnf));split<;>rename_i hb
   ·have h0:l.length=0:=(by simpa using hb);rw [if_pos (by omega),if_pos h0];(repeat (refine gw rfl ?_;conv=>whnf));refine .inl ⟨_,Tryz.PE n l,.inl rfl,?_⟩;rw [decide_eq_true h0];(conv=>whnf);cases hc:nameB n||bF n with
    | true=>
      (conv=>whnf);(repeat (refine gw rfl ?_;conv=>whnf));rfl
    | false=>
      (conv=>whnf);cases g with
      | true=>
        (conv=>whnf);(repeat (refine gw rfl ?_;conv=>whnf));rfl
      | false=>
        (conv=>whnf);refine .inl ⟨_,Tryz.Xy n l,.inl rfl,?_⟩;rw [decide_eq_true h0];(conv=>whnf);(repeat (refine gw rfl ?_;conv=>whnf));rfl
   ·have h0:l.length≠0:=(by simpa using hb);rw [if_neg h0];(repeat (refine gw rfl ?_;conv=>whnf));refine .inl ⟨_,Tryz.DK n,.inl rfl,?_⟩;(conv=>whnf);cases hn:nameB n with
    | false=>
      (conv=>whnf);(repeat (refine gw rfl ?_;conv=>whnf));split<;>simp
    | true=>
      (conv=>whnf);(repeat (refine gw rfl ?_;conv=>whnf));clear hb;(split<;>rename_i hb<;>(try rw [hb])<;>(conv=>whnf))
      ·have h4:¬ l.length≤4:=(by simp at hb;omega);rw [if_neg h4];repeat (refine gw rfl ?_;conv=>whnf)
      ·have h4:l.length≤4:=(by simp at hb;omega);clear hb;rw [if_pos h4,Bool.and_true];(repeat (refine gw rfl ?_;conv=>whnf));refine WP.loop (α:=Nat) (fun i=>⟨[(1,.d (.int .i64 ((k+1:Nat):Int))),(2,.d (.bool g)),(3,.d (.ref [.str n,.list (l.map enT)] 0)),(36,.d (.int .i64 l.length)),(37,.d (.int .i64 i))],[],[]⟩) (fun i=>i≤l.length∧(l.take i).all (eG (!g) k)=true) (fun i=>l.length-i) 0 [] [] ?_ ?_ ?_
       ·((conv=>whnf);repeat (first | exact ⟨⟩ | (refine ⟨by first | rfl | (simp;done) | (simp;omega),?_⟩;conv=>whnf)))
       ·simp
       ·rintro i ⟨hi,ht⟩;(repeat (refine gw rfl ?_;conv=>whnf));(split<;>rename_i hb<;>(try rw [hb])<;>(conv=>whnf))
        ·have hlt:i<l.length:=(by simpa using hb);clear hb;(repeat (refine gw rfl ?_;conv=>whnf));refine ⟨by omega,_,dB hlt,rfl,?_⟩;(conv=>whnf);refine ⟨by omega,?_⟩;rw [show ((k+1:Nat):Int)-1=(k:Nat) by omega];(conv=>whnf);refine .inl ⟨_,ih l[i],.inl rfl,?_⟩;(conv=>whnf);cases h1:eG (!g) k l[i] with
         | true=>
           (conv=>whnf);(repeat (refine gw rfl ?_;conv=>whnf));refine ⟨by omega,?_⟩;(conv=>whnf);refine ⟨i+1,[],[],?_,⟨by omega,IW hlt ht h1⟩,by omega⟩;((conv=>whnf);repeat (first | exact ⟨⟩ | (refine ⟨by first | rfl | (simp;done) | (simp;omega),?_⟩;conv=>whnf)))
         | false=>
           (conv=>whnf);(repeat (refine gw rfl ?_;conv=>whnf));rw [NM hlt h1]
        ·have:i=l.length:=(by simp at hb;omega);subst this;rw [List.take_length] at ht;(repeat (refine gw rfl ?_;conv=>whnf));rw [ht]
theorem Tryz.yE (t:Tm):Pure Tryz.prog 93 [tD t.name t.args] [.bool (eG false 4 t)]:=by
 have h:=Tryz.Kq true 4 (by omega) t;generalize t.name=n at *;generalize t.args=l at *;refine Pure.of_wp hT (nt:=_) (c:=_) Tryz.func93 rfl rfl rfl rfl (by kernel_rfl) ?_;intro w0 ok0 β0;repeat (refine gw rfl ?_;conv=>whnf)
 refine .inl ⟨_,h,.inl rfl,?_⟩;conv=>whnf
 repeat (refine gw rfl ?_;conv=>whnf)
 rfl
theorem Tryz.Ri (t:Tm):Pure Tryz.prog 96 [tD t.name t.args] [.int .i64 (aO t)]:=by
 unfold aO;generalize t.name=n;generalize t.args=l;refine Pure.of_wp hT (nt:=_) (c:=_) Tryz.func96 rfl rfl rfl rfl (by kernel_rfl) ?_;intro w0 ok0 β0;repeat (refine gw rfl ?_;conv=>whnf)
 (split<;>rename_i hb<;>(try rw [hb])<;>(conv=>whnf))
 ·have h0:l.length≠0:=by simp at hb;omega
  rw [if_neg h0];repeat (refine gw rfl ?_;conv=>whnf)
 ·have h0:l.length=0:=by simp at hb;simp [hb]
  rw [if_pos h0];repeat (refine gw rfl ?_;conv=>whnf)
  refine .inl ⟨_,Tryz.LY n,.inl rfl,?_⟩;conv=>whnf
  repeat (refine gw rfl ?_;conv=>whnf)
  cases hn:bF n with
  | true=>
    (repeat (refine gw rfl ?_;conv=>whnf));rfl
  | false=>
    (conv=>whnf);(repeat (refine gw rfl ?_;conv=>whnf));refine .inl ⟨_,Tryz.Cb n,.inl rfl,?_⟩;(conv=>whnf);(repeat (refine gw rfl ?_;conv=>whnf));cases hv:vF n with
    | true=>
      (repeat (refine gw rfl ?_;conv=>whnf));rfl
    | false=>
      (conv=>whnf);(repeat (refine gw rfl ?_;conv=>whnf));rfl
def WE (x:Tm):Prop:=∀ y:Tm,okT x→okT y→Pure Tryz.prog 58 [tD x.name x.args,tD y.name y.args] [.int .i64 (aS x y)]
theorem Tryz.TF (l m:List Tm) (hl:l.length≤9223372036854775807) (ok1:∀ x∈l,okT x) (ok2:∀ x∈m,okT x) (h:∀ x∈l,WE x):Pure Tryz.prog 99 [.list (l.map enT),.list (m.map enT)] [.int .i64 (bH l m)]:=by
 refine Pure.of_wp hT (nt:=_) (c:=_) Tryz.func99 rfl rfl rfl rfl (by kernel_rfl) ?_;intro w0 ok0 β0;repeat (refine gw rfl ?_;conv=>whnf)
 refine WP.loop (α:=Nat) (fun i=>⟨[(0,.d (.list (l.map enT))),(1,.d (.list (m.map enT))),(5,.d (.int .i64 i))],[],[]⟩) (fun i=>(i≤l.length∧i≤m.length)∧bH l m=bH (l.drop i) (m.drop i)) (fun i=>l.length-i) 0 [] [] ?_ ?_ ?_
 ·((conv=>whnf);repeat (first | exact ⟨⟩ | (refine ⟨by first | rfl | (simp;done) | (simp;omega),?_⟩;conv=>whnf)))
 ·simp
 ·rintro i ⟨⟨hi,hj⟩,ht⟩;repeat (refine gw rfl ?_;conv=>whnf)
  (split<;>rename_i hb<;>(try rw [hb])<;>(conv=>whnf))
  ·have hlt:i<l.length:=(by simpa using hb);clear hb;(repeat (refine gw rfl ?_;conv=>whnf));(split<;>rename_i hb<;>(try rw [hb])<;>(conv=>whnf))
   ·have hlm:i<m.length:=(by simpa using hb);clear hb;rw [E5 hlt hlm] at ht;(repeat (refine gw rfl ?_;conv=>whnf));refine ⟨by omega,_,dB hlt,rfl,?_⟩;(conv=>whnf);refine ⟨by omega,_,dB hlm,rfl,?_⟩;(conv=>whnf);refine .inl ⟨_,h _ (List.getElem_mem hlt) m[i] (ok1 _ (List.getElem_mem hlt)) (ok2 _ (List.getElem_mem hlm)),.inl rfl,?_⟩;(conv=>whnf);(repeat (refine gw rfl ?_;conv=>whnf));(split<;>rename_i hb<;>(try rw [hb])<;>(conv=>whnf))
    ·have h0:aS l[i] m[i]≠0:=(by simpa using hb);rw [if_pos h0] at ht;(repeat (refine gw rfl ?_;conv=>whnf));rw [ht]
    ·have h0:aS l[i] m[i]=0:=(by simpa using hb);rw [if_neg (by omega)] at ht;(repeat (refine gw rfl ?_;conv=>whnf));refine ⟨by omega,?_⟩;(conv=>whnf);refine ⟨i+1,[],[],?_,⟨⟨by omega,by omega⟩,ht⟩,by omega⟩;((conv=>whnf);repeat (first | exact ⟨⟩ | (refine ⟨by first | rfl | (simp;done) | (simp;omega),?_⟩;conv=>whnf)))
   ·have:i=m.length:=(by simp at hb;omega);(repeat (refine gw rfl ?_;conv=>whnf));refine .inl ⟨_,Tryz.sign _ _,.inl rfl,?_⟩;(conv=>whnf);(repeat (refine gw rfl ?_;conv=>whnf));rw [ht,uV (by omega) (by omega) (.inr this)];simp
  ·have:i=l.length:=(by simp at hb;omega);(repeat (refine gw rfl ?_;conv=>whnf));refine .inl ⟨_,Tryz.sign _ _,.inl rfl,?_⟩;(conv=>whnf);(repeat (refine gw rfl ?_;conv=>whnf));rw [ht,uV (by omega) (by omega) (.inl this)];simp
theorem Tryz.uT:∀ x:Tm,WE x:=Tm.ind fun x ih y okx oky=>by
 have c1:=Tryz.Ri x;have c2:=Tryz.Ri y;have hl:=Tryz.TF x.args y.args (aW.1 okx).1 (aW.1 okx).2 (aW.1 oky).2 ih;rw [BR];clear ih okx oky;generalize aO x=cx at *;generalize aO y=cy at *;generalize x.name=n at *;generalize x.args=l at *;generalize y.name=m at *;generalize y.args=k at *;refine Pure.of_wp hT (nt:=_) (c:=_) Tryz.func58 rfl rfl rfl rfl (by kernel_rfl) ?_;intro w0 ok0 β0;repeat (refine gw rfl ?_;conv=>whnf)
 refine .inl ⟨_,c1,.inl rfl,?_⟩;conv=>whnf
 refine .inl ⟨_,c2,.inl rfl,?_⟩;conv=>whnf
 refine .inl ⟨_,Tryz.sign cx cy,.inl rfl,?_⟩;conv=>whnf
 repeat (refine gw rfl ?_;conv=>whnf)
 (split<;>rename_i hb<;>(try rw [hb])<;>(conv=>whnf))
 ·have h0:aT cx cy≠0:=by simpa using hb
  rw [if_pos h0];repeat (refine gw rfl ?_;conv=>whnf)
 rw [if_neg (by simpa using hb)];clear hb;repeat (refine gw rfl ?_;conv=>whnf)
 refine .inl ⟨_,c1,.inl rfl,?_⟩;conv=>whnf
 repeat (refine gw rfl ?_;conv=>whnf)
 (split<;>rename_i hb<;>(try rw [hb])<;>(conv=>whnf))
 ·have h0:cx=0:=by simpa using hb
  rw [if_pos h0];repeat (refine gw rfl ?_;conv=>whnf)
  refine .inl ⟨_,Tryz.Qb n,.inl rfl,?_⟩;conv=>whnf
  refine .inl ⟨_,Tryz.Qb m,.inl rfl,?_⟩;conv=>whnf
  refine .inl ⟨_,Tryz.sign _ _,.inl rfl,?_⟩;conv=>whnf
  repeat (refine gw rfl ?_;conv=>whnf)
 rw [if_neg (by simpa using hb)];clear hb;repeat (refine gw rfl ?_;conv=>whnf)
 (split<;>rename_i hb<;>(try rw [hb])<;>(conv=>whnf))
 ·have h0:l.length≠k.length:=by simp at hb;omega
  rw [if_pos h0];repeat (refine gw rfl ?_;conv=>whnf)
  refine .inl ⟨_,Tryz.sign _ _,.inl rfl,?_⟩;conv=>whnf
  repeat (refine gw rfl ?_;conv=>whnf)
  simp
 have h0:l.length=k.length:=by simp at hb;omega
 rw [if_neg (by omega)];clear hb;repeat (refine gw rfl ?_;conv=>whnf)
 refine .inl ⟨_,Tryz.RD n m,.inl rfl,?_⟩;conv=>whnf
 repeat (refine gw rfl ?_;conv=>whnf)
 (split<;>rename_i hb<;>(try rw [hb])<;>(conv=>whnf))
 ·have h1:eF n m≠0:=by simpa using hb
  rw [if_pos h1];repeat (refine gw rfl ?_;conv=>whnf)
 rw [if_neg (by simpa using hb)];clear hb;repeat (refine gw rfl ?_;conv=>whnf)
 refine .inl ⟨_,hl,.inl rfl,?_⟩;conv=>whnf
 repeat (refine gw rfl ?_;conv=>whnf)
def kV (t:Tm):Int:=if aO t=0 then eu t.name else 0
def kN (t:Tm):Str:=if aO t=0 then [] else t.name
def UZ (t:Tm):D := .agg [.int .i64 (aO t),.int .i64 (kV t),.int .i64 t.args.length,.str (kN t)]
theorem Tryz.kindOf (t:Tm):Pure Tryz.prog 121 [tD t.name t.args] [UZ t]:=by
 unfold UZ kV kN aO;generalize t.name=n;generalize t.args=l;refine Pure.of_wp hT (nt:=_) (c:=_) Tryz.func121 rfl rfl rfl rfl (by kernel_rfl) ?_;intro w0 ok0 β0;repeat (refine gw rfl ?_;conv=>whnf)
 (split<;>rename_i hb<;>(try rw [hb])<;>(conv=>whnf))
 ·have h0:l.length≠0:=by simp at hb;omega
  rw [if_neg h0];repeat (refine gw rfl ?_;conv=>whnf)
  (repeat (refine ⟨by first | rfl | omega,?_⟩;conv=>whnf));repeat (refine gw rfl ?_;conv=>whnf)
  simp
 ·have h0:l.length=0:=by simp at hb;simp [hb]
  rw [if_pos h0];repeat (refine gw rfl ?_;conv=>whnf)
  refine .inl ⟨_,Tryz.number n,.inl rfl,?_⟩;conv=>whnf
  repeat (refine gw rfl ?_;conv=>whnf)
  cases hn:bF n with
  | true=>
    (conv=>whnf);(repeat (refine gw rfl ?_;conv=>whnf));(repeat (refine ⟨by first | rfl | omega,?_⟩;conv=>whnf));(repeat (refine gw rfl ?_;conv=>whnf));simp [h0]
  | false=>
    (conv=>whnf);(repeat (refine gw rfl ?_;conv=>whnf));refine .inl ⟨_,Tryz.variable n,.inl rfl,?_⟩;(conv=>whnf);(repeat (refine gw rfl ?_;conv=>whnf));cases hv:vF n with
    | true=>
      (conv=>whnf);(repeat (refine gw rfl ?_;conv=>whnf));(repeat (refine ⟨by first | rfl | omega,?_⟩;conv=>whnf));(repeat (refine gw rfl ?_;conv=>whnf));simp [h0]
    | false=>
      (conv=>whnf);(repeat (refine gw rfl ?_;conv=>whnf));(repeat (refine ⟨by first | rfl | omega,?_⟩;conv=>whnf));(repeat (refine gw rfl ?_;conv=>whnf));simp [h0]
theorem Tryz.within (v:Bool):∀ (k:Nat),k≤1000→∀ t:Tm,Pure Tryz.prog 132 [tD t.name t.args,.int .i64 k,.bool v] [.bool (eG v k t)]
 | 0,_,t=>by
   obtain ⟨n,l⟩:=t;refine Pure.of_wp hT (nt:=_) (c:=_) Tryz.func132 rfl rfl rfl rfl (by kernel_rfl) ?_;intro w0 ok0 β0;(repeat (refine gw rfl ?_;conv=>whnf));rw [eG]
 | k+1,hk,t=>by
   have ih:=Tryz.within v k (by omega);rw [xE];generalize t.name=n;generalize t.args=l;refine Pure.of_wp hT (nt:=_) (c:=_) Tryz.func132 rfl rfl rfl rfl (by kernel_rfl) ?_;intro w0 ok0 β0;(repeat (refine gw rfl ?_;conv=>whnf));rw [decide_eq_false (p:=(((k+1:Nat):Int)<1)) (by omega)];(conv=>whnf);(repeat (refine gw rfl ?_;conv=>whnf));(split<;>rename_i hb<;>(try rw [hb])<;>(conv=>whnf))
   ·have h4:¬ l.length≤4:=(by simp at hb;omega);rw [if_neg h4];repeat (refine gw rfl ?_;conv=>whnf)
   ·have h4:l.length≤4:=(by simp at hb;omega);clear hb;rw [if_pos h4];(repeat (refine gw rfl ?_;conv=>whnf));(split<;>rename_i hb<;>(try rw [hb])<;>(conv=>whnf))
    ·have h0:l.length=0:=(by simp at hb;simp [hb]);rw [if_pos h0];(repeat (refine gw rfl ?_;conv=>whnf));refine .inl ⟨_,Tryz.name n,.inl rfl,?_⟩;(conv=>whnf);cases h1:nameB n with
     | true=>
       (conv=>whnf);(repeat (refine gw rfl ?_;conv=>whnf));rfl
     | false=>
       (conv=>whnf);refine .inl ⟨_,Tryz.Xg n,.inl rfl,?_⟩;(conv=>whnf);cases h2:bF n with
       | true=>
         (conv=>whnf);(repeat (refine gw rfl ?_;conv=>whnf));rfl
       | false=>
         (conv=>whnf);cases v with
         | false=>
           (conv=>whnf);(repeat (refine gw rfl ?_;conv=>whnf));rfl
         | true=>
           (conv=>whnf);refine .inl ⟨_,Tryz.variable n,.inl rfl,?_⟩;(conv=>whnf);(repeat (refine gw rfl ?_;conv=>whnf));rfl
    ·have h0:l.length≠0:=(by simp at hb;simpa using hb);rw [if_neg h0];(repeat (refine gw rfl ?_;conv=>whnf));refine WP.loop (α:=Nat) (fun i=>⟨[(1,.d (.int .i64 ((k+1:Nat):Int))),(2,.d (.bool v)),(3,.d (.ref [.str n,.list (l.map enT)] 0)),(38,.d (.list (l.map enT))),(39,.d (.int .i64 l.length)),(40,.d (.int .i64 i))],[],[]⟩) (fun i=>i≤l.length∧(l.take i).all (eG v k)=true) (fun i=>l.length-i) 0 [] [] ?_ ?_ ?_
     ·((conv=>whnf);repeat (first | exact ⟨⟩ | (refine ⟨by first | rfl | (simp;done) | (simp;omega),?_⟩;conv=>whnf)))
     ·simp
     ·rintro i ⟨hi,ht⟩;(repeat (refine gw rfl ?_;conv=>whnf));(split<;>rename_i hb<;>(try rw [hb])<;>(conv=>whnf))
      ·have hlt:i<l.length:=(by simpa using hb);clear hb;(repeat (refine gw rfl ?_;conv=>whnf));refine ⟨by omega,_,dB hlt,rfl,?_⟩;(conv=>whnf);(repeat (refine gw rfl ?_;conv=>whnf));refine ⟨by omega,?_⟩;rw [show ((k+1:Nat):Int)-1=(k:Nat) by omega];(conv=>whnf);refine .inl ⟨_,ih l[i],.inl rfl,?_⟩;(conv=>whnf);cases h1:eG v k l[i] with
       | true=>
         (conv=>whnf);(repeat (refine gw rfl ?_;conv=>whnf));refine ⟨by omega,?_⟩;(conv=>whnf);refine ⟨i+1,[],[],?_,⟨by omega,IW hlt ht h1⟩,by omega⟩;((conv=>whnf);repeat (first | exact ⟨⟩ | (refine ⟨by first | rfl | (simp;done) | (simp;omega),?_⟩;conv=>whnf)))
       | false=>
         (conv=>whnf);(repeat (refine gw rfl ?_;conv=>whnf));rw [NM hlt h1];rfl
      ·have:i=l.length:=(by simp at hb;omega);subst this;rw [List.take_length] at ht;(repeat (refine gw rfl ?_;conv=>whnf));refine .inl ⟨_,Tryz.name n,.inl rfl,?_⟩;(conv=>whnf);(repeat (refine gw rfl ?_;conv=>whnf));rw [ht];rfl
theorem Tryz.XK (t:Tm):Pure Tryz.prog 103 [tD t.name t.args] [.bool (eG false 4 t)]:=by
 have h:=Tryz.within false 4 (by omega) t;generalize t.name=n at *;generalize t.args=l at *;refine Pure.of_wp hT (nt:=_) (c:=_) Tryz.func103 rfl rfl rfl rfl (by kernel_rfl) ?_;intro w0 ok0 β0;repeat (refine gw rfl ?_;conv=>whnf)
 refine .inl ⟨_,h,.inl rfl,?_⟩;conv=>whnf
 repeat (refine gw rfl ?_;conv=>whnf)
def aaj (x:Tm):Prop:=∀ y:Tm,okT x→okT y→Pure Tryz.prog 87 [tD x.name x.args,tD y.name y.args] [.int .i64 (aS x y)]
theorem Tryz.X9 (l m:List Tm) (hl:l.length≤9223372036854775807) (ok1:∀ x∈l,okT x) (ok2:∀ x∈m,okT x) (h:∀ x∈l,aaj x):Pure Tryz.prog 122 [.list (l.map enT),.list (m.map enT)] [.int .i64 (bH l m)]:=by
 refine Pure.of_wp hT (nt:=_) (c:=_) Tryz.func122 rfl rfl rfl rfl (by kernel_rfl) ?_;intro w0 ok0 β0;repeat (refine gw rfl ?_;conv=>whnf)
 refine WP.loop (α:=Nat) (fun i=>⟨[(0,.d (.list (l.map enT))),(1,.d (.list (m.map enT))),(5,.d (.int .i64 i))],[],[]⟩) (fun i=>(i≤l.length∧i≤m.length)∧bH l m=bH (l.drop i) (m.drop i)) (fun i=>l.length-i) 0 [] [] ?_ ?_ ?_
 ·((conv=>whnf);repeat (first | exact ⟨⟩ | (refine ⟨by first | rfl | (simp;done) | (simp;omega),?_⟩;conv=>whnf)))
 ·simp
 ·rintro i ⟨⟨hi,hj⟩,ht⟩;repeat (refine gw rfl ?_;conv=>whnf)
  (split<;>rename_i hb<;>(try rw [hb])<;>(conv=>whnf))
  ·have hlt:i<l.length:=(by simpa using hb);clear hb;(repeat (refine gw rfl ?_;conv=>whnf));(split<;>rename_i hb<;>(try rw [hb])<;>(conv=>whnf))
   ·have hlm:i<m.length:=(by simpa using hb);clear hb;rw [E5 hlt hlm] at ht;(repeat (refine gw rfl ?_;conv=>whnf));refine ⟨by omega,_,dB hlt,rfl,?_⟩;(conv=>whnf);refine ⟨by omega,_,dB hlm,rfl,?_⟩;(conv=>whnf);refine .inl ⟨_,h _ (List.getElem_mem hlt) m[i] (ok1 _ (List.getElem_mem hlt)) (ok2 _ (List.getElem_mem hlm)),.inl rfl,?_⟩;(conv=>whnf);(repeat (refine gw rfl ?_;conv=>whnf));(split<;>rename_i hb<;>(try rw [hb])<;>(conv=>whnf))
    ·have h0:aS l[i] m[i]≠0:=(by simpa using hb);rw [if_pos h0] at ht;(repeat (refine gw rfl ?_;conv=>whnf));rw [ht]
    ·have h0:aS l[i] m[i]=0:=(by simpa using hb);rw [if_neg (by omega)] at ht;(repeat (refine gw rfl ?_;conv=>whnf));refine ⟨by omega,?_⟩;(conv=>whnf);refine ⟨i+1,[],[],?_,⟨⟨by omega,by omega⟩,ht⟩,by omega⟩;((conv=>whnf);repeat (first | exact ⟨⟩ | (refine ⟨by first | rfl | (simp;done) | (simp;omega),?_⟩;conv=>whnf)))
   ·have:i=m.length:=(by simp at hb;omega);(repeat (refine gw rfl ?_;conv=>whnf));refine .inl ⟨_,Tryz.order _ _,.inl rfl,?_⟩;(conv=>whnf);(repeat (refine gw rfl ?_;conv=>whnf));rw [ht,uV (by omega) (by omega) (.inr this)];simp
  ·have:i=l.length:=(by simp at hb;omega);(repeat (refine gw rfl ?_;conv=>whnf));refine .inl ⟨_,Tryz.order _ _,.inl rfl,?_⟩;(conv=>whnf);(repeat (refine gw rfl ?_;conv=>whnf));rw [ht,uV (by omega) (by omega) (.inl this)];simp
theorem DY (t:Tm):(aO t=0∧t.args.length=0)∨aO t≠0:=by
 unfold aO;by_cases h:t.args.length=0
 ·rw [if_pos h];by_cases h1:bF t.name=true
  ·rw [if_pos h1];exact .inl ⟨rfl,h⟩
  ·rw [if_neg h1];right;split<;>decide
 ·rw [if_neg h];right;decide
theorem uX (a:Int):aT a a=0:=by unfold aT;rw [if_neg (by omega),if_neg (by omega)]
theorem Tryz.compare:∀ x:Tm,aaj x:=Tm.ind fun x ih y okx oky=>by
 have c1:=Tryz.kindOf x;have c2:=Tryz.kindOf y;have hl:=Tryz.X9 x.args y.args (aW.1 okx).1 (aW.1 okx).2 (aW.1 oky).2 ih;have hx:=DY x;have hy:=DY y;rw [BR];unfold UZ kV kN at c1 c2;clear ih okx oky;generalize aO x=cx at *;generalize aO y=cy at *;generalize x.name=n at *;generalize x.args=l at *;generalize y.name=m at *;generalize y.args=k at *;generalize hvx:(if cx=0 then eu n else 0)=vx at *;generalize hvy:(if cy=0 then eu m else 0)=vy at *;generalize hnx:(if cx=0 then [] else n)=nx at *;generalize hny:(if cy=0 then [] else m)=ny at *;refine Pure.of_wp hT (nt:=_) (c:=_) Tryz.func87 rfl rfl rfl rfl (by kernel_rfl) ?_;intro w0 ok0 β0;repeat (refine gw rfl ?_;conv=>whnf)
 refine .inl ⟨_,c1,.inl rfl,?_⟩;conv=>whnf
 refine .inl ⟨_,c2,.inl rfl,?_⟩;conv=>whnf
 repeat (refine gw rfl ?_;conv=>whnf)
 have he:aF [.int .i64 cx,.int .i64 vx,.int .i64 (l.length:Int),.str nx] [.int .i64 cy,.int .i64 vy,.int .i64 (k.length:Int),.str ny]=(decide (cx=cy)&&(decide (vx=vy)&&(decide (l.length=k.length)&&decide (nx=ny)))):=by
  simp only [aF,eq1];by_cases h1:cx=cy<;>by_cases h2:vx=vy<;>by_cases h3:l.length=k.length<;>by_cases h4:nx=ny<;>(simp [h1,h2,h3,h4]<;>omega)
 rw [he];by_cases h1:cx=cy
 ·subst h1;rw [if_neg (by simp [uX])];by_cases h0:cx=0
  ·have hlx:l.length=0:=hx.elim (fun h=>h.2) (fun h=>absurd h0 h);have hly:k.length=0:=hy.elim (fun h=>h.2) (fun h=>absurd h0 h);rw [if_pos h0];rw [if_pos h0] at hvx hvy hnx hny;subst hvx;subst hvy;subst hnx;subst hny;by_cases h2:eu n=eu m
   ·rw [decide_eq_true rfl,decide_eq_true h2,decide_eq_true (hlx.trans hly.symm),decide_eq_true rfl];(conv=>whnf);(repeat (refine gw rfl ?_;conv=>whnf));refine .inl ⟨_,hl,.inl rfl,?_⟩;(conv=>whnf);(repeat (refine gw rfl ?_;conv=>whnf));have e1:l=[]:=List.length_eq_zero_iff.1 hlx;have e2:k=[]:=List.length_eq_zero_iff.1 hly;rw [e1,e2,h2,uX,bH]
   ·rw [decide_eq_true rfl,decide_eq_false h2];(conv=>whnf);(repeat (refine gw rfl ?_;conv=>whnf));rw [show (cx != cx)=false by simp];(conv=>whnf);(repeat (refine gw rfl ?_;conv=>whnf));rw [show (eu n != eu m)=true by simpa using h2];(conv=>whnf);(repeat (refine gw rfl ?_;conv=>whnf));refine .inl ⟨_,Tryz.order _ _,.inl rfl,?_⟩;(conv=>whnf);repeat (refine gw rfl ?_;conv=>whnf)
  ·rw [if_neg h0];rw [if_neg h0] at hvx hvy hnx hny;subst hvx;subst hvy;subst hnx;subst hny;by_cases h3:l.length=k.length
   ·rw [if_neg (by omega)];by_cases h4:n=m
    ·subst h4;rw [decide_eq_true rfl,decide_eq_true rfl,decide_eq_true h3,decide_eq_true rfl,if_neg (by simp [nU])];(conv=>whnf);(repeat (refine gw rfl ?_;conv=>whnf));refine .inl ⟨_,hl,.inl rfl,?_⟩;(conv=>whnf);repeat (refine gw rfl ?_;conv=>whnf)
    ·rw [decide_eq_true rfl,decide_eq_true rfl,decide_eq_true h3,decide_eq_false h4,if_pos (fun h=>h4 (nU.1 h))];(conv=>whnf);(repeat (refine gw rfl ?_;conv=>whnf));rw [show (cx != cx)=false by simp];(conv=>whnf);(repeat (refine gw rfl ?_;conv=>whnf));rw [show ((l.length:Int) != (k.length:Int))=false by simp [h3]];(conv=>whnf);(repeat (refine gw rfl ?_;conv=>whnf));refine .inl ⟨_,Tryz.Cm _ _,.inl rfl,?_⟩;(conv=>whnf);repeat (refine gw rfl ?_;conv=>whnf)
   ·rw [if_pos h3,decide_eq_true rfl,decide_eq_true rfl,decide_eq_false h3];(conv=>whnf);(repeat (refine gw rfl ?_;conv=>whnf));rw [show (cx != cx)=false by simp];(conv=>whnf);(repeat (refine gw rfl ?_;conv=>whnf));rw [show ((l.length:Int) != (k.length:Int))=true by simp;omega];(conv=>whnf);(repeat (refine gw rfl ?_;conv=>whnf));refine .inl ⟨_,Tryz.order _ _,.inl rfl,?_⟩;(conv=>whnf);repeat (refine gw rfl ?_;conv=>whnf)
 ·have hc:aT cx cy≠0:=fun h=>h1 (fJ.1 h)
  rw [if_pos hc,decide_eq_false h1];conv=>whnf
  repeat (refine gw rfl ?_;conv=>whnf)
  rw [show (cx != cy)=true by simpa using h1];conv=>whnf
  repeat (refine gw rfl ?_;conv=>whnf)
  refine .inl ⟨_,Tryz.order _ _,.inl rfl,?_⟩;conv=>whnf
  repeat (refine gw rfl ?_;conv=>whnf)
end Go.Proofs.YtdonenoiehdahaaGreat
