/- Plain laws of names, terms and their orders. -/
import Derived.Test.YtdonenoiehdahaaGreatOwnTAnd
import Derived.WalkKit
import Derived.Lib.Bytealg
set_option linter.all false
namespace Go.Own
abbrev Str:=List UInt8
def rng (a b:Int) (c:UInt8):Bool:=decide (a≤(c.toNat:Int))&&decide ((c.toNat:Int)≤b)
def pz (c:UInt8):Bool:=rng 97 122 c
def rH (c:UInt8):Bool:=rng 65 90 c
def mV (c:UInt8):Bool:=rng 48 57 c
def hyB (c:UInt8):Bool:=rng 45 45 c
def headB (p:UInt8→Bool):Str→Bool | []=>false | c::_=>p c
def lV (s:Str):Bool:=decide (1≤s.length)&&decide (s.length≤16)
def sIf:Str:=[105,102]
def CB:Str:=[97,110,100]
def PV:Str:=[110,111,116]
def o8 (c:UInt8):Bool:=pz c||(mV c||hyB c)
def DN (c:UInt8):Bool:=rH c||(pz c||mV c)
def nameB (s:Str):Bool:=lV s&&headB pz s&&s.all o8&&!(s==sIf)&&!(s==CB)&&!(s==PV)
theorem qy {s:Str} (h:lV s=false∨headB pz s=false∨s.all o8=false∨s=sIf∨s=CB∨s=PV):nameB s=false:=by
 unfold nameB;rcases h with h | h | h | rfl | rfl | rfl
 ·rw [h];rfl
 ·rw [h];simp
 ·rw [h];simp
 ·rfl
 ·rfl
 ·rfl
theorem Zm {s:Str} (h1:lV s=true) (h2:headB pz s=true) (h3:s.all o8=true) (h4:s≠sIf) (h5:s≠CB) (h6:s≠PV):nameB s=true:=by
 unfold nameB;rw [h1,h2,h3];simp [h4,h5,h6]
def vw (s:Str):Bool:=lV s&&headB rH s&&s.all DN
theorem JY {s:Str} (h:lV s=false∨headB rH s=false∨s.all DN=false):vw s=false:=by
 unfold vw;rcases h with h | h | h<;>(rw [h];simp)
theorem abJ {s:Str} (h1:lV s=true) (h2:headB rH s=true) (h3:s.all DN=true):vw s=true:=by
 unfold vw;rw [h1,h2,h3];rfl
def numAt (n:Int):Str→Int
 | []=>n
 | c::s=>numAt (10*n+((c.toNat:Int)-48)) s
def eF (s:Str):Bool:=decide (1≤s.length)&&decide (s.length≤4)&&!(headB (fun c=>decide ((c.toNat:Int)=48)) s&&decide (1<s.length))&&s.all mV
def mP (s:Str):Int:=if eF s then numAt 0 s else 0
theorem EL:∀ (l:Str) (n:Int) (c:UInt8),numAt n (l++[c])=10*numAt n l+((c.toNat:Int)-48)
 | [],n,c=>rfl
 | d::l,n,c=>EL l _ c
theorem zH {c:UInt8}:mV c=true↔48≤(c.toNat:Int)∧(c.toNat:Int)≤57:=by simp [mV,rng]
theorem NI:∀ {l:Str} {n:Int},0≤n→l.all mV=true→0≤numAt n l∧numAt n l<(n+1)*10 ^ l.length
 | [],n,h,_=>by simp [numAt];omega
 | c::l,n,h,hd=>by
   simp only [List.all_cons,Bool.and_eq_true] at hd;obtain ⟨h1,h2⟩:=zH.1 hd.1;have:=NI (l:=l) (n:=10*n+((c.toNat:Int)-48)) (by omega) hd.2;refine ⟨this.1,Int.lt_of_lt_of_le this.2 ?_⟩;rw [List.length_cons,Int.pow_succ,← Int.mul_assoc,Int.mul_comm ((n+1)*10 ^ l.length) 10,← Int.mul_assoc];refine Int.mul_le_mul_of_nonneg_right (by omega) (Int.le_of_lt (Int.pow_pos (by decide)))
theorem BJ {l:Str} (hl:l.length≤4) (hd:l.all mV=true):0≤numAt 0 l∧numAt 0 l≤9999:=by
 have h:=NI (Int.le_refl 0) hd;have h5:l.length=0∨l.length=1∨l.length=2∨l.length=3∨l.length=4:=by omega
 rcases h5 with e | e | e | e | e<;>rw [e] at h<;>simp at h<;>omega
theorem kR {s:Str} (h:s.length<1∨4<s.length∨(headB (fun c=>decide ((c.toNat:Int)=48)) s=true∧1<s.length)∨s.all mV=false):eF s=false:=by
 unfold eF;rcases h with h | h | ⟨h,h'⟩ | h
 ·rw [decide_eq_false (p:=1≤s.length) (by omega)];rfl
 ·rw [decide_eq_false (p:=s.length≤4) (by omega)];simp
 ·rw [h,decide_eq_true (p:=1<s.length) h'];simp
 ·rw [h];simp
theorem SA {s:Str} (h1:1≤s.length) (h2:s.length≤4) (h3:¬ (headB (fun c=>decide ((c.toNat:Int)=48)) s=true∧1<s.length)) (h4:s.all mV=true):eF s=true:=by
 unfold eF;rw [decide_eq_true h1,decide_eq_true h2,h4];simp only [Bool.and_true,Bool.true_and,Bool.not_eq_true',Bool.and_eq_false_iff,decide_eq_false_iff_not];cases hh:headB (fun c=>decide ((c.toNat:Int)=48)) s
 ·exact .inl rfl
 ·exact .inr fun h=>h3 ⟨hh,h⟩
inductive Tm where
 | mk (n:Str) (ts:List Tm)
def Tm.name:Tm→Str | .mk n _=>n
def Tm.args:Tm→List Tm | .mk _ ts=>ts
def qZ (vars:Bool):Nat→Tm→Bool
 | 0,_=>false
 | k+1,.mk n ts=>if ts.length≤4 then (if ts.length=0 then nameB n||eF n||(vars&&vw n) else ts.all (qZ vars k)&&nameB n) else false
def eY:Str→Str→Int
 | [],[]=>0
 | [],_::_=>-1
 | _::_,[]=>1
 | a::l,b::m=>if a<b then -1 else if b<a then 1 else eY l m
def bY (t:Tm):Int:=if t.args.length=0 then (if eF t.name then 0 else if vw t.name then 2 else 1) else 3
mutual
def qM:Tm→Tm→Int
 | .mk n l,.mk m k=>
   if bC (bY (.mk n l)) (bY (.mk m k))≠0 then bC (bY (.mk n l)) (bY (.mk m k)) else
   if bY (.mk n l)=0 then bC (mP n) (mP m) else
   if l.length≠k.length then bC l.length k.length else
   if eY n m≠0 then eY n m else jc l k
def jc:List Tm→List Tm→Int
 | [],[]=>0
 | [],_::_=>-1
 | _::_,[]=>1
 | a::l,b::m=>if qM a b≠0 then qM a b else jc l m
end
mutual
def okT:Tm→Prop
 | .mk _ l=>l.length≤9223372036854775807∧WI l
def WI:List Tm→Prop
 | []=>True
 | t::ts=>okT t∧WI ts
end
theorem Ny:∀ {l:List Tm},WI l↔∀ x∈l,okT x
 | []=>by simp [WI]
 | t::ts=>by rw [WI,Ny];simp
theorem nG {t:Tm}:okT t↔t.args.length≤9223372036854775807∧∀ x∈t.args,okT x:=by
 obtain ⟨n,l⟩:=t;rw [okT,Ny];exact Iff.rfl
theorem Tm.ind {p:Tm→Prop} (h:∀ t:Tm,(∀ x∈t.args,p x)→p t) (t:Tm):p t:=
 Tm.rec (motive_1:=p) (motive_2:=fun l=>∀ x∈l,p x) (fun n l hl=>h (.mk n l) hl) (fun x hx=>by cases hx)
  (fun a l ha hl x hx=>by
   rcases List.mem_cons.1 hx with rfl | hx
   ·exact ha
   ·exact hl x hx) t
theorem LP (a b:Tm):qM a b=if bC (bY a) (bY b)≠0 then bC (bY a) (bY b) else
  if bY a=0 then bC (mP a.name) (mP b.name) else
  if a.args.length≠b.args.length then bC a.args.length b.args.length else
  if eY a.name b.name≠0 then eY a.name b.name else jc a.args b.args:=by
 obtain ⟨n,l⟩:=a;obtain ⟨m,k⟩:=b;rw [qM];rfl
theorem Rw (vars:Bool) (k:Nat) (t:Tm):qZ vars (k+1) t=if t.args.length≤4 then (if t.args.length=0 then nameB t.name||eF t.name||(vars&&vw t.name) else t.args.all (qZ vars k)&&nameB t.name) else false:=by
 obtain ⟨n,l⟩:=t;rw [qZ];rfl
theorem GL {l m:List Tm} {i:Nat} (h:i<l.length) (h':i<m.length):jc (l.drop i) (m.drop i)=if qM l[i] m[i]≠0 then qM l[i] m[i] else jc (l.drop (i+1)) (m.drop (i+1)):=by
 rw [List.drop_eq_getElem_cons h,List.drop_eq_getElem_cons h',jc]
theorem uT {l m:List Tm} {i:Nat} (h:i≤l.length) (h':i≤m.length) (he:i=l.length∨i=m.length):jc (l.drop i) (m.drop i)=bC l.length m.length:=by
 unfold bC;rcases he with rfl | rfl
 ·rw [List.drop_length];rcases Nat.lt_or_ge l.length m.length with hlt | hge
  ·rw [List.drop_eq_getElem_cons hlt,jc,if_pos (by omega)]
  ·have:l.length=m.length:=(by omega);rw [this,List.drop_length,jc,if_neg (by omega),if_neg (by omega)]
 ·rw [List.drop_length];rcases Nat.lt_or_ge m.length l.length with hlt | hge
  ·rw [List.drop_eq_getElem_cons hlt,jc,if_neg (by omega),if_pos (by omega)]
  ·have:l.length=m.length:=(by omega);rw [← this,List.drop_length,jc,if_neg (by omega),if_neg (by omega)]
end Go.Own
namespace Go.Proofs.YtdonenoiehdahaaGreat
open Go Go.Abs Go.Own
attribute [local irreducible] WP
def enC (c:UInt8):D := .int .u8 c.toNat
theorem Tryz.lower (c:UInt8):Pure Tryz.prog 119 [enC c] [.bool (pz c)]:=by
 refine Pure.of_wp hT (nt:=_) (c:=_) Tryz.func119 rfl rfl rfl rfl (by kernel_rfl) ?_;intro w0 ok0 β0;repeat (refine gw rfl ?_;conv=>whnf)
 (split<;>rename_i hb<;>(try rw [hb])<;>(conv=>whnf))<;>repeat (refine gw rfl ?_;conv=>whnf)<;>(simp [pz,rng] at hb ⊢<;>omega)
theorem Tryz.upper (c:UInt8):Pure Tryz.prog 149 [enC c] [.bool (rH c)]:=by
 refine Pure.of_wp hT (nt:=_) (c:=_) Tryz.func149 rfl rfl rfl rfl (by kernel_rfl) ?_;intro w0 ok0 β0;repeat (refine gw rfl ?_;conv=>whnf)
 (split<;>rename_i hb<;>(try rw [hb])<;>(conv=>whnf))<;>repeat (refine gw rfl ?_;conv=>whnf)<;>(simp [rH,rng] at hb ⊢<;>omega)
theorem Tryz.digit (c:UInt8):Pure Tryz.prog 100 [enC c] [.bool (mV c)]:=by
 refine Pure.of_wp hT (nt:=_) (c:=_) Tryz.func100 rfl rfl rfl rfl (by kernel_rfl) ?_;intro w0 ok0 β0;repeat (refine gw rfl ?_;conv=>whnf)
 (split<;>rename_i hb<;>(try rw [hb])<;>(conv=>whnf))<;>repeat (refine gw rfl ?_;conv=>whnf)<;>(simp [mV,rng] at hb ⊢<;>omega)
theorem gJ {s:Str} {i:Nat} (h:i<s.length):s[((i:Int)).toNat]?=some s[i]:=by simp [h]
theorem uf {s:Str} {p:UInt8→Bool} {i:Nat} (h:i<s.length) (ht:(s.take i).all p=true) (hp:p s[i]=true):(s.take (i+1)).all p=true:=by
 rw [List.take_succ_eq_append_getElem h,List.all_append,ht];simp [hp]
theorem vg {s:Str} {p:UInt8→Bool} {i:Nat} (h:i<s.length) (hp:p s[i]=false):s.all p=false:=by
 rw [List.all_eq_false];exact ⟨_,List.getElem_mem h,by simp [hp]⟩
theorem KT {s:Str} (h:decide ((s.length:Int)<1)=true):lV s=false:=by
 simp at h;simp only [lV];rw [decide_eq_false (by omega)];rfl
theorem KR {s:Str} (h:decide ((s.length:Int)>16)=true):lV s=false:=by
 simp only [decide_eq_true_eq] at h;simp only [lV];rw [decide_eq_false (p:=s.length≤16) (by omega)];simp
theorem Qj {s:Str} (h:decide ((s.length:Int)<1)=false) (h':decide ((s.length:Int)>16)=false):lV s=true:=by
 simp only [decide_eq_false_iff_not] at h h';simp only [lV];rw [decide_eq_true (by omega),decide_eq_true (by omega)];rfl
theorem Tryz.KO (s:Str):Pure Tryz.prog 81 [.str s] [.bool (nameB s)]:=by
 refine Pure.of_wp hT (nt:=_) (c:=_) Tryz.func81 rfl rfl rfl rfl (by kernel_rfl) ?_;intro w0 ok0 β0;repeat (refine gw rfl ?_;conv=>whnf)
 (split<;>rename_i hb<;>(try rw [hb])<;>(conv=>whnf))
 ·repeat (refine gw rfl ?_;conv=>whnf)
  rw [qy (.inl (KT hb))]
 (split<;>rename_i hb<;>(try rw [hb])<;>(conv=>whnf))
 ·repeat (refine gw rfl ?_;conv=>whnf)
  rw [qy (.inl (KR hb))]
 have hlen:=Qj (by assumption) hb;clear hb;cases s with
 | nil=>simp [lV] at hlen
 | cons c s=>
 refine ⟨by omega,c,rfl,?_⟩;conv=>whnf
 refine .inl ⟨_,Tryz.lower c,.inl rfl,?_⟩;conv=>whnf
 cases hc:pz c with
 | false=>
   (conv=>whnf);(repeat (refine gw rfl ?_;conv=>whnf));rw [qy (.inr (.inl (show headB pz (c::s)=false from hc)))]
 | true=>
 conv=>whnf
 (split<;>rename_i hb<;>(try rw [hb])<;>(conv=>whnf))
 ·repeat (refine gw rfl ?_;conv=>whnf)
  rw [qy (.inr (.inr (.inr (.inl (by simpa [sIf] using hb)))))]
 have e1:c::s≠sIf:=by simpa [sIf] using hb
 clear hb;(split<;>rename_i hb<;>(try rw [hb])<;>(conv=>whnf))
 ·repeat (refine gw rfl ?_;conv=>whnf)
  rw [qy (.inr (.inr (.inr (.inr (.inl (by simpa [CB] using hb))))))]
 have e2:c::s≠CB:=by simpa [CB] using hb
 clear hb;repeat (refine gw rfl ?_;conv=>whnf)
 (split<;>rename_i hb<;>(try rw [hb])<;>(conv=>whnf))
 ·repeat (refine gw rfl ?_;conv=>whnf)
  rw [qy (.inr (.inr (.inr (.inr (.inr (by simpa [PV] using hb))))))]
 have e3:c::s≠PV:=by simpa [PV] using hb
 clear hb;have hh:headB pz (c::s)=true:=hc;generalize c::s=s at *;have hl16:s.length≤16:=by simp [lV] at hlen;omega
 repeat (refine gw rfl ?_;conv=>whnf)
 refine WP.loop (α:=Nat) (fun i=>⟨[(0,.d (.str s)),(31,.d (.int .i64 s.length)),(32,.d (.int .i64 i))],[],[]⟩) (fun i=>i≤s.length∧(s.take i).all o8=true) (fun i=>s.length-i) 0 [] [] ?_ ?_ ?_
 ·((conv=>whnf);repeat (first | exact ⟨⟩ | (refine ⟨by first | rfl | (simp;done) | (simp;omega),?_⟩;conv=>whnf)))
 ·simp
 ·rintro i ⟨hi,ht⟩;repeat (refine gw rfl ?_;conv=>whnf)
  (split<;>rename_i hb<;>(try rw [hb])<;>(conv=>whnf))
  ·have hlt:i<s.length:=(by simpa using hb);clear hb;(repeat (refine gw rfl ?_;conv=>whnf));refine ⟨by omega,_,gJ hlt,?_⟩;(conv=>whnf);refine .inl ⟨_,Tryz.lower s[i],.inl rfl,?_⟩;(conv=>whnf);have fin:o8 s[i]=true→_:=fun hn=>uf hlt ht hn
   cases h1:pz s[i] with
   | true=>
     (conv=>whnf);(repeat (refine gw rfl ?_;conv=>whnf));refine ⟨by omega,?_⟩;(conv=>whnf);refine ⟨i+1,[],[],?_,⟨by omega,fin (by simp [o8,h1])⟩,by omega⟩;((conv=>whnf);repeat (first | exact ⟨⟩ | (refine ⟨by first | rfl | (simp;done) | (simp;omega),?_⟩;conv=>whnf)))
   | false=>
     (conv=>whnf);refine ⟨by omega,_,gJ hlt,?_⟩;(conv=>whnf);refine .inl ⟨_,Tryz.digit s[i],.inl rfl,?_⟩;(conv=>whnf);cases h2:mV s[i] with
     | true=>
       (conv=>whnf);(repeat (refine gw rfl ?_;conv=>whnf));refine ⟨by omega,?_⟩;(conv=>whnf);refine ⟨i+1,[],[],?_,⟨by omega,fin (by simp [o8,h2])⟩,by omega⟩;((conv=>whnf);repeat (first | exact ⟨⟩ | (refine ⟨by first | rfl | (simp;done) | (simp;omega),?_⟩;conv=>whnf)))
     | false=>
       (conv=>whnf);refine ⟨by omega,_,gJ hlt,?_⟩;(conv=>whnf);(repeat (refine gw rfl ?_;conv=>whnf));(split<;>rename_i hb<;>(try rw [hb])<;>(conv=>whnf))
       ·(repeat (refine gw rfl ?_;conv=>whnf));rw [qy (.inr (.inr (.inl (vg hlt (by simp [o8,h1,h2,hyB,rng] at hb ⊢;omega)))))]
       ·(repeat (refine gw rfl ?_;conv=>whnf));refine ⟨by omega,?_⟩;(conv=>whnf);refine ⟨i+1,[],[],?_,⟨by omega,fin (by simp [o8,h1,h2,hyB,rng] at hb ⊢;omega)⟩,by omega⟩;((conv=>whnf);repeat (first | exact ⟨⟩ | (refine ⟨by first | rfl | (simp;done) | (simp;omega),?_⟩;conv=>whnf)))
  ·have:i=s.length:=(by simp at hb;omega);subst this;rw [List.take_length] at ht;(repeat (refine gw rfl ?_;conv=>whnf));rw [Zm hlen hh ht e1 e2 e3]
theorem wrap_u8 {n:Int} (h:0≤n) (h':n<256):IntKind.u8.wrap n=n:=by
 unfold IntKind.wrap;simp [IntKind.bits,IntKind.signed];omega
theorem MP {s:Str} (h:1≤s.length):∃ c t,s=c::t:=by
 cases s with
 | nil=>simp at h
 | cons c t=>exact ⟨c,t,rfl⟩
theorem EM {s:Str} {i:Nat} (h:i<s.length):numAt 0 (s.take (i+1))=10*numAt 0 (s.take i)+((s[i].toNat:Int)-48):=by
 rw [List.take_succ_eq_append_getElem h,EL]
theorem uD {s:Str} {i:Nat} (hs:s.length≤4) (hd:(s.take i).all mV=true):0≤numAt 0 (s.take i)∧numAt 0 (s.take i)≤9999:=BJ (by simp;omega) hd
theorem Tryz.NG (s:Str):Pure Tryz.prog 59 [.str s] [.int .i64 (mP s),.bool (eF s)]:=by
 refine Pure.of_wp hT (nt:=_) (c:=_) Tryz.func59 rfl rfl rfl rfl (by kernel_rfl) ?_;intro w0 ok0 β0;have no:eF s=false→[D.int .i64 0,.bool false]=[D.int .i64 (mP s),.bool (eF s)]:=fun h=>by unfold mP;rw [h];rfl
 have yes:eF s=true→[D.int .i64 (numAt 0 s),.bool true]=[D.int .i64 (mP s),.bool (eF s)]:=fun h=>by unfold mP;rw [h];rfl
 repeat (refine gw rfl ?_;conv=>whnf)
 (split<;>rename_i hb<;>(try rw [hb])<;>(conv=>whnf))
 ·repeat (refine gw rfl ?_;conv=>whnf)
  exact no (kR (.inl (by simp only [decide_eq_true_eq] at hb;omega)))
 (split<;>rename_i hb<;>(try rw [hb])<;>(conv=>whnf))
 ·repeat (refine gw rfl ?_;conv=>whnf)
  exact no (kR (.inr (.inl (by simp only [decide_eq_true_eq] at hb;omega))))
 rename_i _ h1 _;have hl1:1≤s.length:=by simp only [decide_eq_false_iff_not] at h1;omega
 have hl4:s.length≤4:=by simp only [decide_eq_false_iff_not] at hb;omega
 clear h1 hb;obtain ⟨c,t,hs⟩:=MP hl1;by_cases h3:headB (fun c=>decide ((c.toNat:Int)=48)) s=true∧1<s.length
 ·rw [decide_eq_true (p:=(s.length:Int)>1) (by omega)];conv=>whnf
  refine ⟨by omega,c,by rw [hs];rfl,?_⟩;conv=>whnf
  rw [show ((c.toNat:Int)==48)=true by have:=h3.1;rw [hs] at this;simpa [headB] using this];conv=>whnf
  repeat (refine gw rfl ?_;conv=>whnf)
  exact no (kR (.inr (.inr (.inl h3))))
 (split<;>rename_i hb<;>(try rw [hb])<;>(conv=>whnf))<;>first
  | (refine ⟨by omega,c,by rw [hs];rfl,?_⟩
     conv=>whnf
     rw [show ((c.toNat:Int)==48)=false by
      simp only [decide_eq_true_eq] at hb;have h4:¬ headB (fun c=>decide ((c.toNat:Int)=48)) s=true:=fun h=>h3 ⟨h,by omega⟩
      rw [hs] at h4;simpa [headB] using h4]
     conv=>whnf)
  | skip
 all_goals
  repeat (refine gw rfl ?_;conv=>whnf)
  refine WP.loop (α:=Nat) (fun i=>⟨[(0,.d (.str s)),(4,.d (.int .i64 (numAt 0 (s.take i)))),(25,.d (.int .i64 s.length)),(26,.d (.int .i64 i))],[],[]⟩) (fun i=>i≤s.length∧(s.take i).all mV=true) (fun i=>s.length-i) 0 [] [] ?_ ?_ ?_
  ·((conv=>whnf);repeat (first | exact ⟨⟩ | (refine ⟨by first | rfl | (simp;done) | (simp;omega),?_⟩;conv=>whnf)))
  ·simp
  ·rintro i ⟨hi,ht⟩;(repeat (refine gw rfl ?_;conv=>whnf));(split<;>rename_i hb<;>(try rw [hb])<;>(conv=>whnf))
   ·have hlt:i<s.length:=(by simp only [decide_eq_true_eq] at hb;omega);clear hb;(repeat (refine gw rfl ?_;conv=>whnf));refine ⟨by omega,_,gJ hlt,?_⟩;(conv=>whnf);refine .inl ⟨_,Tryz.digit s[i],.inl rfl,?_⟩;(conv=>whnf);cases h1:mV s[i] with
    | true=>
      obtain ⟨d1,d2⟩:=zH.1 h1;obtain ⟨n1,n2⟩:=uD hl4 ht;have ht':=uf hlt ht h1;obtain ⟨n3,n4⟩:=uD hl4 ht';have hn:=EM hlt;(conv=>whnf);(repeat (refine gw rfl ?_;conv=>whnf));refine ⟨by omega,?_⟩;(conv=>whnf);refine ⟨by omega,_,gJ hlt,?_⟩;(conv=>whnf);rw [wrap_u8 (by omega) (by omega)];refine ⟨by omega,?_⟩;(conv=>whnf);refine ⟨by omega,?_⟩;(conv=>whnf);(repeat (refine gw rfl ?_;conv=>whnf));refine ⟨by omega,?_⟩;(conv=>whnf);refine ⟨i+1,[],[],?_,⟨by omega,ht'⟩,by omega⟩;rw [hn];((conv=>whnf);repeat (first | exact ⟨⟩ | (refine ⟨by first | rfl | (simp;done) | (simp;omega),?_⟩;conv=>whnf)))
    | false=>
      (conv=>whnf);(repeat (refine gw rfl ?_;conv=>whnf));exact no (kR (.inr (.inr (.inr (vg hlt h1)))))
   ·have:i=s.length:=(by simp only [decide_eq_false_iff_not] at hb;omega);subst this;rw [List.take_length] at ht;rw [List.take_length];(repeat (refine gw rfl ?_;conv=>whnf));exact yes (SA hl1 hl4 h3 ht)
theorem Tryz.Ob (s:Str):Pure Tryz.prog 130 [.str s] [.bool (eF s)]:=by
 refine Pure.of_wp hT (nt:=_) (c:=_) Tryz.func130 rfl rfl rfl rfl (by kernel_rfl) ?_;intro w0 ok0 β0;repeat (refine gw rfl ?_;conv=>whnf)
 refine .inl ⟨_,Tryz.NG s,.inl rfl,?_⟩;conv=>whnf
 repeat (refine gw rfl ?_;conv=>whnf)
theorem Tryz.Rx (s:Str):Pure Tryz.prog 97 [.str s] [.int .i64 (mP s)]:=by
 refine Pure.of_wp hT (nt:=_) (c:=_) Tryz.func97 rfl rfl rfl rfl (by kernel_rfl) ?_;intro w0 ok0 β0;repeat (refine gw rfl ?_;conv=>whnf)
 refine .inl ⟨_,Tryz.NG s,.inl rfl,?_⟩;conv=>whnf
 repeat (refine gw rfl ?_;conv=>whnf)
theorem Tryz.DL (s:Str):Pure Tryz.prog 131 [.str s] [.bool (vw s)]:=by
 refine Pure.of_wp hT (nt:=_) (c:=_) Tryz.func131 rfl rfl rfl rfl (by kernel_rfl) ?_;intro w0 ok0 β0;repeat (refine gw rfl ?_;conv=>whnf)
 (split<;>rename_i hb<;>(try rw [hb])<;>(conv=>whnf))
 ·repeat (refine gw rfl ?_;conv=>whnf)
  rw [JY (.inl (KT hb))]
 (split<;>rename_i hb<;>(try rw [hb])<;>(conv=>whnf))
 ·repeat (refine gw rfl ?_;conv=>whnf)
  rw [JY (.inl (KR hb))]
 have hlen:=Qj (by assumption) hb;clear hb;cases s with
 | nil=>simp [lV] at hlen
 | cons c s=>
 refine ⟨by omega,c,rfl,?_⟩;conv=>whnf
 refine .inl ⟨_,Tryz.upper c,.inl rfl,?_⟩;conv=>whnf
 cases hc:rH c with
 | false=>
   (conv=>whnf);(repeat (refine gw rfl ?_;conv=>whnf));rw [JY (.inr (.inl (show headB rH (c::s)=false from hc)))]
 | true=>
 conv=>whnf
 have hh:headB rH (c::s)=true:=hc;generalize c::s=s at *;have hl16:s.length≤16:=by simp [lV] at hlen;omega
 repeat (refine gw rfl ?_;conv=>whnf)
 refine WP.loop (α:=Nat) (fun i=>⟨[(0,.d (.str s)),(19,.d (.int .i64 s.length)),(20,.d (.int .i64 i))],[],[]⟩) (fun i=>i≤s.length∧(s.take i).all DN=true) (fun i=>s.length-i) 0 [] [] ?_ ?_ ?_
 ·((conv=>whnf);repeat (first | exact ⟨⟩ | (refine ⟨by first | rfl | (simp;done) | (simp;omega),?_⟩;conv=>whnf)))
 ·simp
 ·rintro i ⟨hi,ht⟩;repeat (refine gw rfl ?_;conv=>whnf)
  (split<;>rename_i hb<;>(try rw [hb])<;>(conv=>whnf))
  ·have hlt:i<s.length:=(by simpa using hb);clear hb;(repeat (refine gw rfl ?_;conv=>whnf));refine ⟨by omega,_,gJ hlt,?_⟩;(conv=>whnf);refine .inl ⟨_,Tryz.lower s[i],.inl rfl,?_⟩;(conv=>whnf);have fin:DN s[i]=true→_:=fun hn=>uf hlt ht hn
   cases h1:pz s[i] with
   | true=>
     (conv=>whnf);(repeat (refine gw rfl ?_;conv=>whnf));refine ⟨by omega,?_⟩;(conv=>whnf);refine ⟨i+1,[],[],?_,⟨by omega,fin (by simp [DN,h1])⟩,by omega⟩;((conv=>whnf);repeat (first | exact ⟨⟩ | (refine ⟨by first | rfl | (simp;done) | (simp;omega),?_⟩;conv=>whnf)))
   | false=>
     (conv=>whnf);refine ⟨by omega,_,gJ hlt,?_⟩;(conv=>whnf);refine .inl ⟨_,Tryz.upper s[i],.inl rfl,?_⟩;(conv=>whnf);cases h2:rH s[i] with
     | true=>
       (conv=>whnf);(repeat (refine gw rfl ?_;conv=>whnf));refine ⟨by omega,?_⟩;(conv=>whnf);refine ⟨i+1,[],[],?_,⟨by omega,fin (by simp [DN,h2])⟩,by omega⟩;((conv=>whnf);repeat (first | exact ⟨⟩ | (refine ⟨by first | rfl | (simp;done) | (simp;omega),?_⟩;conv=>whnf)))
     | false=>
       (conv=>whnf);refine ⟨by omega,_,gJ hlt,?_⟩;(conv=>whnf);refine .inl ⟨_,Tryz.digit s[i],.inl rfl,?_⟩;(conv=>whnf);cases h3:mV s[i] with
       | true=>
         (conv=>whnf);(repeat (refine gw rfl ?_;conv=>whnf));refine ⟨by omega,?_⟩;(conv=>whnf);refine ⟨i+1,[],[],?_,⟨by omega,fin (by simp [DN,h3])⟩,by omega⟩;((conv=>whnf);repeat (first | exact ⟨⟩ | (refine ⟨by first | rfl | (simp;done) | (simp;omega),?_⟩;conv=>whnf)))
       | false=>
         (conv=>whnf);(repeat (refine gw rfl ?_;conv=>whnf));rw [JY (.inr (.inr (vg hlt (by simp [DN,h1,h2,h3]))))]
  ·have:i=s.length:=(by simp at hb;omega);subst this;rw [List.take_length] at ht;(repeat (refine gw rfl ?_;conv=>whnf));rw [abJ hlen hh ht]
abbrev Sp:=Int×Int
def afm (p:Sp):D := .agg [.int .u8 p.1,.int .u8 p.2]
def jS (c:UInt8) (l:List Sp):Bool:=l.any fun p=>rng p.1 p.2 c
theorem Tryz.inC (c:UInt8) (l:List Sp) (hl:l.length≤1000000):Pure Tryz.prog 135 [enC c,.list (l.map afm)] [.bool (jS c l)]:=by
 refine Pure.of_wp hT (nt:=_) (c:=_) Tryz.func135 rfl rfl rfl rfl (by kernel_rfl) ?_;intro w0 ok0 β0;repeat (refine gw rfl ?_;conv=>whnf)
 refine WP.loop (α:=Nat) (fun i=>⟨[(0,.d (enC c)),(7,.d (.list (l.map afm))),(8,.d (.int .i64 l.length)),(9,.d (.int .i64 i))],[],[]⟩) (fun i=>i≤l.length∧jS c (l.take i)=false) (fun i=>l.length-i) 0 [] [] ?_ ?_ ?_
 ·((conv=>whnf);repeat (first | exact ⟨⟩ | (refine ⟨by first | rfl | (simp;done) | (simp;omega),?_⟩;conv=>whnf)))
 ·simp [jS]
 ·rintro i ⟨hi,ht⟩;repeat (refine gw rfl ?_;conv=>whnf)
  (split<;>rename_i hb<;>(try rw [hb])<;>(conv=>whnf))
  ·have hlt:i<l.length:=(by simpa using hb);clear hb;have hn:jS c (l.take (i+1))=rng l[i].1 l[i].2 c:=by
    unfold jS at ht ⊢;rw [List.take_succ_eq_append_getElem hlt,List.any_append,ht];simp
   (repeat (refine gw rfl ?_;conv=>whnf));refine ⟨by omega,_,aN hlt,rfl,?_⟩;(conv=>whnf);(repeat (refine gw rfl ?_;conv=>whnf));cases hc:rng l[i].1 l[i].2 c with
   | true=>
     have hc':=hc;simp only [rng,Bool.and_eq_true,decide_eq_true_eq] at hc';rw [decide_eq_true (p:=(c.toNat:Int)≥l[i].1) hc'.1];(conv=>whnf);rw [decide_eq_true (p:=(c.toNat:Int)≤l[i].2) hc'.2];(conv=>whnf);(repeat (refine gw rfl ?_;conv=>whnf));have:jS c l=true:=by
      unfold jS;rw [List.any_eq_true];exact ⟨_,List.getElem_mem hlt,hc⟩
     rw [this]
   | false=>
     rw [hc] at hn;(split<;>rename_i hb<;>(try rw [hb])<;>(conv=>whnf))
     ·have:decide ((c.toNat:Int)≤l[i].2)=false:=by
       unfold rng at hc;rw [show decide (l[i].1≤(c.toNat:Int))=true from hb] at hc
       simpa using hc
      rw [this];(conv=>whnf);(repeat (refine gw rfl ?_;conv=>whnf));refine ⟨by omega,?_⟩;(conv=>whnf);refine ⟨i+1,[],[],?_,⟨by omega,hn⟩,by omega⟩;((conv=>whnf);repeat (first | exact ⟨⟩ | (refine ⟨by first | rfl | (simp;done) | (simp;omega),?_⟩;conv=>whnf)))
     ·(repeat (refine gw rfl ?_;conv=>whnf));refine ⟨by omega,?_⟩;(conv=>whnf);refine ⟨i+1,[],[],?_,⟨by omega,hn⟩,by omega⟩;((conv=>whnf);repeat (first | exact ⟨⟩ | (refine ⟨by first | rfl | (simp;done) | (simp;omega),?_⟩;conv=>whnf)))
  ·have:i=l.length:=(by simp at hb;omega);subst this;rw [List.take_length] at ht;(repeat (refine gw rfl ?_;conv=>whnf));rw [ht]
def abP (a b c:Sp):D := .agg [.int .u8 a.1,.int .u8 a.2,.int .u8 b.1,.int .u8 b.2,.int .u8 c.1,.int .u8 c.2]
def spB (x y z:Sp) (s:Str):Bool:=lV s&&headB (fun c=>jS c [x]) s&&s.all (fun c=>jS c [x,y,z])
theorem RD {x y z:Sp} {s:Str} (h:lV s=false∨headB (fun c=>jS c [x]) s=false∨s.all (fun c=>jS c [x,y,z])=false):spB x y z s=false:=by
 unfold spB;rcases h with h | h | h<;>(rw [h];simp)
theorem ad5 {x y z:Sp} {s:Str} (h1:lV s=true) (h2:headB (fun c=>jS c [x]) s=true) (h3:s.all (fun c=>jS c [x,y,z])=true):spB x y z s=true:=by
 unfold spB;rw [h1,h2,h3];rfl
theorem Tryz.spelled (s:Str) (x y z:Sp):Pure Tryz.prog 109 [.str s,abP x y z] [.bool (spB x y z s)]:=by
 refine Pure.of_wp hT (nt:=_) (c:=_) Tryz.func109 rfl rfl rfl rfl (by kernel_rfl) ?_;intro w0 ok0 β0;repeat (refine gw rfl ?_;conv=>whnf)
 (split<;>rename_i hb<;>(try rw [hb])<;>(conv=>whnf))
 ·repeat (refine gw rfl ?_;conv=>whnf)
  rw [RD (.inl (KT hb))]
 (split<;>rename_i hb<;>(try rw [hb])<;>(conv=>whnf))
 ·repeat (refine gw rfl ?_;conv=>whnf)
  rw [RD (.inl (KR hb))]
 have hlen:=Qj (by assumption) hb;clear hb;cases s with
 | nil=>simp [lV] at hlen
 | cons c s=>
 refine ⟨by omega,c,rfl,?_⟩;conv=>whnf
 refine ⟨⟨rfl,by decide,by decide,by decide⟩,?_⟩;conv=>whnf
 refine .inl ⟨_,Tryz.inC c [x] (by simp),.inl rfl,?_⟩;conv=>whnf
 cases hc:jS c [x] with
 | false=>
   (conv=>whnf);(repeat (refine gw rfl ?_;conv=>whnf));rw [RD (.inr (.inl (show headB (fun c=>jS c [x]) (c::s)=false from hc)))]
 | true=>
 conv=>whnf
 have hh:headB (fun c=>jS c [x]) (c::s)=true:=hc;generalize c::s=s at *;have hl16:s.length≤16:=by simp [lV] at hlen;omega
 repeat (refine gw rfl ?_;conv=>whnf)
 refine WP.loop (α:=Nat) (fun i=>⟨[(0,.d (.str s)),(3,.d (.ref [.int .u8 x.1,.int .u8 x.2,.int .u8 y.1,.int .u8 y.2,.int .u8 z.1,.int .u8 z.2] 0)),(5,.d (.int .i64 i))],[],[]⟩) (fun i=>i≤s.length∧(s.take i).all (fun c=>jS c [x,y,z])=true) (fun i=>s.length-i) 0 [] [] ?_ ?_ ?_
 ·((conv=>whnf);repeat (first | exact ⟨⟩ | (refine ⟨by first | rfl | (simp;done) | (simp;omega),?_⟩;conv=>whnf)))
 ·simp
 ·rintro i ⟨hi,ht⟩;repeat (refine gw rfl ?_;conv=>whnf)
  (split<;>rename_i hb<;>(try rw [hb])<;>(conv=>whnf))
  ·have hlt:i<s.length:=(by simpa using hb);clear hb;(repeat (refine gw rfl ?_;conv=>whnf));refine ⟨by omega,_,gJ hlt,?_⟩;(conv=>whnf);refine ⟨⟨rfl,by decide,by decide,by decide⟩,?_⟩;(conv=>whnf);refine .inl ⟨_,Tryz.inC s[i] [x,y,z] (by simp),.inl rfl,?_⟩;(conv=>whnf);cases h1:jS s[i] [x,y,z] with
   | true=>
     (conv=>whnf);(repeat (refine gw rfl ?_;conv=>whnf));refine ⟨by omega,?_⟩;(conv=>whnf);refine ⟨i+1,[],[],?_,⟨by omega,uf hlt ht h1⟩,by omega⟩;((conv=>whnf);repeat (first | exact ⟨⟩ | (refine ⟨by first | rfl | (simp;done) | (simp;omega),?_⟩;conv=>whnf)))
   | false=>
     (conv=>whnf);(repeat (refine gw rfl ?_;conv=>whnf));rw [RD (.inr (.inr (vg hlt h1)))]
  ·have:i=s.length:=(by simp at hb;omega);subst this;rw [List.take_length] at ht;(repeat (refine gw rfl ?_;conv=>whnf));rw [ad5 hlen hh ht]
theorem YW (s:Str):spB (97,122) (48,57) (45,45) s=(lV s&&headB pz s&&s.all o8):=by
 have h1:(fun c=>jS c [(97,122)])=pz:=by funext c;simp [jS,pz]
 have h2:(fun c=>jS c [(97,122),(48,57),(45,45)])=o8:=by funext c;simp [jS,o8,pz,mV,hyB]
 unfold spB;rw [h1,h2]
theorem abQ (s:Str):spB (65,90) (97,122) (48,57) s=vw s:=by
 have h1:(fun c=>jS c [(65,90)])=rH:=by funext c;simp [jS,rH]
 have h2:(fun c=>jS c [(65,90),(97,122),(48,57)])=DN:=by funext c;simp [jS,DN,pz,mV,rH]
 unfold spB vw;rw [h1,h2]
theorem Tryz.variable (s:Str):Pure Tryz.prog 141 [.str s] [.bool (vw s)]:=by
 refine Pure.of_wp hT (nt:=_) (c:=_) Tryz.func141 rfl rfl rfl rfl (by kernel_rfl) ?_;intro w0 ok0 β0;repeat (refine gw rfl ?_;conv=>whnf)
 (repeat (refine ⟨by first | rfl | omega,?_⟩;conv=>whnf));refine .inl ⟨_,Tryz.spelled s (65,90) (97,122) (48,57),.inl rfl,?_⟩;conv=>whnf
 repeat (refine gw rfl ?_;conv=>whnf)
 rw [abQ]
theorem Tryz.name (s:Str):Pure Tryz.prog 73 [.str s] [.bool (nameB s)]:=by
 refine Pure.of_wp hT (nt:=_) (c:=_) Tryz.func73 rfl rfl rfl rfl (by kernel_rfl) ?_;intro w0 ok0 β0;repeat (refine gw rfl ?_;conv=>whnf)
 (repeat (refine ⟨by first | rfl | omega,?_⟩;conv=>whnf));refine .inl ⟨_,Tryz.spelled s (97,122) (48,57) (45,45),.inl rfl,?_⟩;conv=>whnf
 rw [YW];cases hs:lV s&&headB pz s&&s.all o8 with
 | false=>
   (conv=>whnf);(repeat (refine gw rfl ?_;conv=>whnf));unfold nameB;rw [hs];rfl
 | true=>
   (conv=>whnf);have e:nameB s=(!(s==sIf)&&!(s==CB)&&!(s==PV)):=(by unfold nameB;rw [hs];simp);(split<;>rename_i hb<;>(try rw [hb])<;>(conv=>whnf))
   ·have h1:s≠sIf:=(by simpa [sIf] using hb);clear hb;(split<;>rename_i hb<;>(try rw [hb])<;>(conv=>whnf))
    ·have h2:s≠CB:=(by simpa [CB] using hb);clear hb;(repeat (refine gw rfl ?_;conv=>whnf));rw [e,show (s==sIf)=false by simpa using h1,show (s==CB)=false by simpa using h2];rfl
    ·have h2:s=CB:=(by simpa [CB] using hb);(repeat (refine gw rfl ?_;conv=>whnf));rw [e];simp [h2]
   ·have h1:s=sIf:=(by simpa [sIf] using hb);(repeat (refine gw rfl ?_;conv=>whnf));rw [e];simp [h1]
theorem Tryz.number (s:Str):Pure Tryz.prog 91 [.str s] [.int .i64 (mP s),.bool (eF s)]:=by
 refine Pure.of_wp hT (nt:=_) (c:=_) Tryz.func91 rfl rfl rfl rfl (by kernel_rfl) ?_;intro w0 ok0 β0;have no:eF s=false→[D.int .i64 0,.bool false]=[D.int .i64 (mP s),.bool (eF s)]:=fun h=>by unfold mP;rw [h];rfl
 have yes:eF s=true→numAt 0 s≤9999→[D.int .i64 (numAt 0 s),.bool (decide (numAt 0 s≤9999))]=[D.int .i64 (mP s),.bool (eF s)]:=fun h h'=>by unfold mP;rw [h,decide_eq_true h'];rfl
 repeat (refine gw rfl ?_;conv=>whnf)
 (split<;>rename_i hb<;>(try rw [hb])<;>(conv=>whnf))
 ·repeat (refine gw rfl ?_;conv=>whnf)
  exact no (kR (.inl (by simp only [decide_eq_true_eq] at hb;omega)))
 (split<;>rename_i hb<;>(try rw [hb])<;>(conv=>whnf))
 ·repeat (refine gw rfl ?_;conv=>whnf)
  exact no (kR (.inr (.inl (by simp only [decide_eq_true_eq] at hb;omega))))
 rename_i _ h1 _;have hl1:1≤s.length:=by simp only [decide_eq_false_iff_not] at h1;omega
 have hl4:s.length≤4:=by simp only [decide_eq_false_iff_not] at hb;omega
 clear h1 hb;obtain ⟨c,t,hs⟩:=MP hl1;refine ⟨by omega,c,by rw [hs];rfl,?_⟩;conv=>whnf
 by_cases h3:headB (fun c=>decide ((c.toNat:Int)=48)) s=true∧1<s.length
 ·rw [show ((c.toNat:Int)==48)=true by have:=h3.1;rw [hs] at this;simpa [headB] using this];conv=>whnf
  rw [decide_eq_true (p:=(s.length:Int)>1) (by omega)];conv=>whnf
  repeat (refine gw rfl ?_;conv=>whnf)
  exact no (kR (.inr (.inr (.inl h3))))
 (split<;>rename_i hb<;>(try rw [hb])<;>(conv=>whnf))<;>first
  | (rw [decide_eq_false (p:=(s.length:Int)>1) (fun h=>h3 ⟨by rw [hs];simpa [headB] using hb,by omega⟩)]
     conv=>whnf)
  | skip
 all_goals
  repeat (refine gw rfl ?_;conv=>whnf)
  refine WP.loop (α:=Nat) (fun i=>⟨[(0,.d (.str s)),(4,.d (.int .i64 (numAt 0 (s.take i)))),(5,.d (.int .i64 i))],[],[]⟩) (fun i=>i≤s.length∧(s.take i).all mV=true) (fun i=>s.length-i) 0 [] [] ?_ ?_ ?_
  ·((conv=>whnf);repeat (first | exact ⟨⟩ | (refine ⟨by first | rfl | (simp;done) | (simp;omega),?_⟩;conv=>whnf)))
  ·simp
  ·rintro i ⟨hi,ht⟩;(repeat (refine gw rfl ?_;conv=>whnf));(split<;>rename_i hb<;>(try rw [hb])<;>(conv=>whnf))
   ·have hlt:i<s.length:=(by simp only [decide_eq_true_eq] at hb;omega);clear hb;(repeat (refine gw rfl ?_;conv=>whnf));refine ⟨by omega,_,gJ hlt,?_⟩;(conv=>whnf);cases h1:mV s[i] with
    | true=>
      obtain ⟨d1,d2⟩:=zH.1 h1;obtain ⟨n1,n2⟩:=uD hl4 ht;have ht':=uf hlt ht h1;obtain ⟨n3,n4⟩:=uD hl4 ht';have hn:=EM hlt;rw [decide_eq_false (p:=(s[i].toNat:Int)<48) (by omega)];(conv=>whnf);refine ⟨by omega,_,gJ hlt,?_⟩;(conv=>whnf);rw [decide_eq_false (p:=(s[i].toNat:Int)>57) (by omega)];(conv=>whnf);(repeat (refine gw rfl ?_;conv=>whnf));refine ⟨by omega,?_⟩;(conv=>whnf);refine ⟨by omega,_,gJ hlt,?_⟩;(conv=>whnf);rw [wrap_u8 (by omega) (by omega)];refine ⟨by omega,?_⟩;(conv=>whnf);refine ⟨by omega,?_⟩;(conv=>whnf);(repeat (refine gw rfl ?_;conv=>whnf));refine ⟨by omega,?_⟩;(conv=>whnf);refine ⟨i+1,[],[],?_,⟨by omega,ht'⟩,by omega⟩;rw [hn];((conv=>whnf);repeat (first | exact ⟨⟩ | (refine ⟨by first | rfl | (simp;done) | (simp;omega),?_⟩;conv=>whnf)))
    | false=>
      have h2:(s[i].toNat:Int)<48∨(s[i].toNat:Int)>57:=by
       have:¬ (48≤(s[i].toNat:Int)∧(s[i].toNat:Int)≤57):=fun h=>by rw [zH.2 h] at h1;cases h1
       omega
      by_cases h5:(s[i].toNat:Int)<48
      ·rw [decide_eq_true (p:=(s[i].toNat:Int)<48) h5];(conv=>whnf);(repeat (refine gw rfl ?_;conv=>whnf));exact no (kR (.inr (.inr (.inr (vg hlt h1)))))
      ·rw [decide_eq_false (p:=(s[i].toNat:Int)<48) h5];(conv=>whnf);refine ⟨by omega,_,gJ hlt,?_⟩;(conv=>whnf);rw [decide_eq_true (p:=(s[i].toNat:Int)>57) (by omega)];(conv=>whnf);(repeat (refine gw rfl ?_;conv=>whnf));exact no (kR (.inr (.inr (.inr (vg hlt h1)))))
   ·have:i=s.length:=(by simp only [decide_eq_false_iff_not] at hb;omega);subst this;rw [List.take_length] at ht;rw [List.take_length];(repeat (refine gw rfl ?_;conv=>whnf));exact yes (SA hl1 hl4 h3 ht) (BJ hl4 ht).2
theorem Tryz.Zh (s:Str):Pure Tryz.prog 150 [.str s] [.bool (eF s)]:=by
 refine Pure.of_wp hT (nt:=_) (c:=_) Tryz.func150 rfl rfl rfl rfl (by kernel_rfl) ?_;intro w0 ok0 β0;repeat (refine gw rfl ?_;conv=>whnf)
 refine .inl ⟨_,Tryz.number s,.inl rfl,?_⟩;conv=>whnf
 repeat (refine gw rfl ?_;conv=>whnf)
end Go.Proofs.YtdonenoiehdahaaGreat
namespace Go.Proofs.YtdonenoiehdahaaGreat
open Go Go.Abs Go.Own Go.RowKit
attribute [local irreducible] WP
theorem O6:∀ a b:Str,Lib.compareBytes a b=eY a b
 | [],[]=>rfl
 | [],_::_=>rfl
 | _::_,[]=>rfl
 | a::l,b::m=>by unfold Lib.compareBytes eY;rw [O6 l m]
set_option maxHeartbeats 1000000 in
set_option maxRecDepth 100000 in
theorem Tryz.adS (a b:Str) (w:World):Calls Tryz.prog 142 #[.string ⟨a.toArray⟩,.string ⟨b.toArray⟩] w fun e w'=>e = .returned (.int .i64 (eY a b))∧w'=w:=by
 go_enter Tryz.func142,Tryz.ntmps142
 go_wp2
 rw [run_callFunc_extern Tryz.func155 (by kernel_rfl) (by kernel_rfl) (by kernel_rfl) (e:=Extern.BytealgCompare.compare) (by kernel_rfl)];rw [Lib.run_compareString];simp only [Result.andThen];rw [Oper.upon_value]
 go_wp2
 go_ret
 exact ⟨by rw [← O6];rfl,rfl⟩
theorem Tryz.aad (a b:Str):Pure Tryz.prog 142 [.str a,.str b] [.int .i64 (eY a b)]:=by
 refine ⟨⟨_,Tryz.func142,by kernel_rfl,rfl⟩,fun ok w vs hgl hokb hsz hrd=>?_⟩;obtain ⟨v0,v1,rfl⟩:∃ v0 v1,vs=#[v0,v1]:=by
  match vs,hsz with
  | ⟨[v0,v1]⟩,_=>exact ⟨v0,v1,rfl⟩
 have h0:=hrd 0 v0 _ rfl rfl;have h1:=hrd 1 v1 _ rfl rfl;cases h0;cases h1;refine (Tryz.adS a b w).mono ?_;rintro e w' ⟨rfl,rfl⟩;exact ⟨_,rfl,Frame.refl _ _,.int _ _⟩
theorem Tryz.DU (a b:Str):Pure Tryz.prog 124 [.str a,.str b] [.int .i64 (eY a b)]:=by
 refine Pure.of_wp hT (nt:=_) (c:=_) Tryz.func124 rfl rfl rfl rfl (by kernel_rfl) ?_;intro w0 ok0 β0;repeat (refine gw rfl ?_;conv=>whnf)
 refine .inl ⟨_,Tryz.aad a b,.inl rfl,?_⟩;conv=>whnf
 repeat (refine gw rfl ?_;conv=>whnf)
theorem uI:∀ a b:Str,Op.bytesLess a b=decide (eY a b<0)
 | [],[]=>by simp [Op.bytesLess,eY]
 | [],_::_=>by simp [Op.bytesLess,eY]
 | _::_,[]=>by simp [Op.bytesLess,eY]
 | a::l,b::m=>by
   unfold Op.bytesLess eY;by_cases h:a<b
   ·simp [h]
   ·by_cases h':b<a
    ·have:a≠b:=(by rintro rfl;exact h h');simp [h,h',this]
    ·have:a=b:=UInt8.le_antisymm (UInt8.not_lt.1 h') (UInt8.not_lt.1 h);subst this;simp [UInt8.lt_irrefl,uI l m]
theorem uX:∀ {a b:Str},eY a b=0↔a=b
 | [],[]=>by simp [eY]
 | [],_::_=>by simp [eY]
 | _::_,[]=>by simp [eY]
 | a::l,b::m=>by
   unfold eY;by_cases h:a<b
   ·have:a≠b:=(by rintro rfl;exact UInt8.lt_irrefl _ h);simp [h,this]
   ·by_cases h':b<a
    ·have:a≠b:=(by rintro rfl;exact h h');simp [h,h',this]
    ·have:a=b:=UInt8.le_antisymm (UInt8.not_lt.1 h') (UInt8.not_lt.1 h);subst this;simp [UInt8.lt_irrefl,uX]
theorem GN:∀ a b:Str,eY a b=-1∨eY a b=0∨eY a b=1
 | [],[]=>by simp [eY]
 | [],_::_=>by simp [eY]
 | _::_,[]=>by simp [eY]
 | a::l,b::m=>by
   unfold eY;split
   ·exact .inl rfl
   ·split
    ·exact .inr (.inr rfl)
    ·exact GN l m
theorem Tryz.UE (a b:Str):Pure Tryz.prog 98 [.str a,.str b] [.int .i64 (eY a b)]:=by
 refine Pure.of_wp hT (nt:=_) (c:=_) Tryz.func98 rfl rfl rfl rfl (by kernel_rfl) ?_;intro w0 ok0 β0;have hr:=GN a b;repeat (refine gw rfl ?_;conv=>whnf)
 (split<;>rename_i hb<;>(try rw [hb])<;>(conv=>whnf))
 ·rw [uI] at hb;simp only [decide_eq_true_eq] at hb;repeat (refine gw rfl ?_;conv=>whnf)
  rw [show eY a b=-1 by omega]
 repeat (refine gw rfl ?_;conv=>whnf)
 (split<;>rename_i hb<;>(try rw [hb])<;>(conv=>whnf))
 ·have h1:¬ eY a b<0:=fun h=>by rw [uI,decide_eq_true h] at hb;simp at hb
  have h2:eY a b≠0:=fun h=>by rw [uX.1 h] at hb;simp at hb
  repeat (refine gw rfl ?_;conv=>whnf)
  rw [show eY a b=1 by omega]
 ·have h2:eY a b=0:=by
   rename_i h1 _;rw [uI] at h1 hb;rw [h1] at hb;simp at hb;exact uX.2 hb
  repeat (refine gw rfl ?_;conv=>whnf)
  rw [h2]
theorem Tryz.sign (a b:Int):Pure Tryz.prog 95 [.int .i64 a,.int .i64 b] [.int .i64 (bC a b)]:=by
 refine Pure.of_wp hT (nt:=_) (c:=_) Tryz.func95 rfl rfl rfl rfl (by kernel_rfl) ?_;intro w0 ok0 β0;unfold bC;repeat (refine gw rfl ?_;conv=>whnf)
 (split<;>rename_i hb<;>(try rw [hb])<;>(conv=>whnf))
 ·simp only [decide_eq_true_eq] at hb;repeat (refine gw rfl ?_;conv=>whnf)
  rw [if_pos hb]
 ·repeat (refine gw rfl ?_;conv=>whnf)
  simp only [decide_eq_false_iff_not] at hb;rw [if_neg hb];(split<;>rename_i hb<;>(try rw [hb])<;>(conv=>whnf))
  ·simp only [decide_eq_true_eq] at hb;(repeat (refine gw rfl ?_;conv=>whnf));rw [if_pos hb]
  ·simp only [decide_eq_false_iff_not] at hb;(repeat (refine gw rfl ?_;conv=>whnf));rw [if_neg (by omega)]
theorem Tryz.order (a b:Int):Pure Tryz.prog 123 [.int .i64 a,.int .i64 b] [.int .i64 (bC a b)]:=by
 refine Pure.of_wp hT (nt:=_) (c:=_) Tryz.func123 rfl rfl rfl rfl (by kernel_rfl) ?_;intro w0 ok0 β0;unfold bC;repeat (refine gw rfl ?_;conv=>whnf)
 (split<;>rename_i hb<;>(try rw [hb])<;>(conv=>whnf))
 ·simp only [decide_eq_true_eq] at hb;repeat (refine gw rfl ?_;conv=>whnf)
  rw [if_pos hb]
 ·repeat (refine gw rfl ?_;conv=>whnf)
  simp only [decide_eq_false_iff_not] at hb;rw [if_neg hb];(split<;>rename_i hb<;>(try rw [hb])<;>(conv=>whnf))
  ·simp only [decide_eq_true_eq] at hb;(repeat (refine gw rfl ?_;conv=>whnf));rw [if_pos hb]
  ·simp only [decide_eq_false_iff_not] at hb;(repeat (refine gw rfl ?_;conv=>whnf));rw [if_neg (by omega)]
end Go.Proofs.YtdonenoiehdahaaGreat
namespace Go.Proofs.YtdonenoiehdahaaGreat
open Go Go.Abs Go.Own
attribute [local irreducible] WP
mutual
def enT:Tm→D
 | .mk n l => .agg [.str n,.list (ZX l)]
def ZX:List Tm→List D
 | []=>[]
 | t::ts=>enT t::ZX ts
end
theorem OZ:∀ l:List Tm,ZX l=l.map enT
 | []=>rfl
 | t::ts=>by rw [ZX,OZ ts];rfl
def tD (n:Str) (l:List Tm):D := .agg [.str n,.list (l.map enT)]
theorem QY (t:Tm):enT t=tD t.name t.args:=by obtain ⟨n,l⟩:=t;rw [enT,OZ];rfl
theorem kD {l:List Tm} {i:Nat} (h:i<l.length):(l.map enT)[((i:Int)).toNat]?=some (tD l[i].name l[i].args):=by rw [← QY];exact aN h
theorem Tryz.Q8 (n:Str) (l:List Tm):Pure Tryz.prog 147 [tD n l] [.bool (decide (l.length=0)&&(nameB n||eF n))]:=by
 refine Pure.of_wp hT (nt:=_) (c:=_) Tryz.func147 rfl rfl rfl rfl (by kernel_rfl) ?_;intro w0 ok0 β0;repeat (refine gw rfl ?_;conv=>whnf)
 (split<;>rename_i hb<;>(try rw [hb])<;>(conv=>whnf))
 ·have h0:l.length=0:=by simpa using hb
  rw [decide_eq_true h0];refine .inl ⟨_,Tryz.KO n,.inl rfl,?_⟩;conv=>whnf
  cases hn:nameB n with
  | true=>
    (conv=>whnf);(repeat (refine gw rfl ?_;conv=>whnf));rfl
  | false=>
    (conv=>whnf);refine .inl ⟨_,Tryz.Ob n,.inl rfl,?_⟩;(conv=>whnf);(repeat (refine gw rfl ?_;conv=>whnf));rfl
 ·have h0:l.length≠0:=by simpa using hb
  rw [decide_eq_false h0];repeat (refine gw rfl ?_;conv=>whnf)
  rfl
theorem Tryz.Zw (n:Str) (l:List Tm):Pure Tryz.prog 148 [tD n l] [.bool (decide (l.length=0)&&vw n)]:=by
 refine Pure.of_wp hT (nt:=_) (c:=_) Tryz.func148 rfl rfl rfl rfl (by kernel_rfl) ?_;intro w0 ok0 β0;repeat (refine gw rfl ?_;conv=>whnf)
 (split<;>rename_i hb<;>(try rw [hb])<;>(conv=>whnf))
 ·have h0:l.length=0:=by simpa using hb
  rw [decide_eq_true h0];refine .inl ⟨_,Tryz.DL n,.inl rfl,?_⟩;conv=>whnf
  repeat (refine gw rfl ?_;conv=>whnf)
  rfl
 ·have h0:l.length≠0:=by simpa using hb
  rw [decide_eq_false h0];repeat (refine gw rfl ?_;conv=>whnf)
  rfl
theorem JV {l:List Tm} {p:Tm→Bool} {i:Nat} (h:i<l.length) (ht:(l.take i).all p=true) (hp:p l[i]=true):(l.take (i+1)).all p=true:=by
 rw [List.take_succ_eq_append_getElem h,List.all_append,ht];simp [hp]
theorem Pq {l:List Tm} {p:Tm→Bool} {i:Nat} (h:i<l.length) (hp:p l[i]=false):l.all p=false:=by
 rw [List.all_eq_false];exact ⟨_,List.getElem_mem h,by simp [hp]⟩
theorem Tryz.Mc (g:Bool):∀ (k:Nat),k≤1000→∀ t:Tm,Pure Tryz.prog 129 [tD t.name t.args,.int .i64 k,.bool g] [.bool (qZ (!g) k t)]
 | 0,_,t=>by
   obtain ⟨n,l⟩:=t;refine Pure.of_wp hT (nt:=_) (c:=_) Tryz.func129 rfl rfl rfl rfl (by kernel_rfl) ?_;intro w0 ok0 β0;(repeat (refine gw rfl ?_;conv=>whnf));rw [qZ]
 | k+1,hk,t=>by
   have ih:=Tryz.Mc g k (by omega);rw [Rw];generalize t.name=n;generalize t.args=l;refine Pure.of_wp hT (nt:=_) (c:=_) Tryz.func129 rfl rfl rfl rfl (by kernel_rfl) ?_;intro w0 ok0 β0;(repeat (refine gw rfl ?_;conv=>whnf));rw [decide_eq_false (p:=(((k+1:Nat):Int)<1)) (by omega)];(conv=>whnf);(repeat (refine gw rfl ?_;conv=>whnf));split<;>rename_i hb
   ·have h0:l.length=0:=(by simpa using hb);rw [if_pos (by omega),if_pos h0];(repeat (refine gw rfl ?_;conv=>whnf));refine .inl ⟨_,Tryz.Q8 n l,.inl rfl,?_⟩;rw [decide_eq_true h0];(conv=>whnf);cases hc:nameB n||eF n with
    | true=>
      (conv=>whnf);(repeat (refine gw rfl ?_;conv=>whnf));rfl
    | false=>
      (conv=>whnf);cases g with
      | true=>
        (conv=>whnf);(repeat (refine gw rfl ?_;conv=>whnf));rfl
      | false=>
        (conv=>whnf);refine .inl ⟨_,Tryz.Zw n l,.inl rfl,?_⟩;rw [decide_eq_true h0];(conv=>whnf);(repeat (refine gw rfl ?_;conv=>whnf));rfl
   ·have h0:l.length≠0:=(by simpa using hb);rw [if_neg h0];(repeat (refine gw rfl ?_;conv=>whnf));refine .inl ⟨_,Tryz.KO n,.inl rfl,?_⟩;(conv=>whnf);cases hn:nameB n with
    | false=>
      (conv=>whnf);(repeat (refine gw rfl ?_;conv=>whnf));split<;>simp
    | true=>
      (conv=>whnf);(repeat (refine gw rfl ?_;conv=>whnf));clear hb;(split<;>rename_i hb<;>(try rw [hb])<;>(conv=>whnf))
      ·have h4:¬ l.length≤4:=(by simp at hb;omega);rw [if_neg h4];repeat (refine gw rfl ?_;conv=>whnf)
      ·have h4:l.length≤4:=(by simp at hb;omega);clear hb;rw [if_pos h4,Bool.and_true];(repeat (refine gw rfl ?_;conv=>whnf));refine WP.loop (α:=Nat) (fun i=>⟨[(1,.d (.int .i64 ((k+1:Nat):Int))),(2,.d (.bool g)),(3,.d (.ref [.str n,.list (l.map enT)] 0)),(36,.d (.int .i64 l.length)),(37,.d (.int .i64 i))],[],[]⟩) (fun i=>i≤l.length∧(l.take i).all (qZ (!g) k)=true) (fun i=>l.length-i) 0 [] [] ?_ ?_ ?_
       ·((conv=>whnf);repeat (first | exact ⟨⟩ | (refine ⟨by first | rfl | (simp;done) | (simp;omega),?_⟩;conv=>whnf)))
       ·simp
       ·rintro i ⟨hi,ht⟩;(repeat (refine gw rfl ?_;conv=>whnf));(split<;>rename_i hb<;>(try rw [hb])<;>(conv=>whnf))
        ·have hlt:i<l.length:=(by simpa using hb);clear hb;(repeat (refine gw rfl ?_;conv=>whnf));refine ⟨by omega,_,kD hlt,rfl,?_⟩;(conv=>whnf);refine ⟨by omega,?_⟩;rw [show ((k+1:Nat):Int)-1=(k:Nat) by omega];(conv=>whnf);refine .inl ⟨_,ih l[i],.inl rfl,?_⟩;(conv=>whnf);cases h1:qZ (!g) k l[i] with
         | true=>
           (conv=>whnf);(repeat (refine gw rfl ?_;conv=>whnf));refine ⟨by omega,?_⟩;(conv=>whnf);refine ⟨i+1,[],[],?_,⟨by omega,JV hlt ht h1⟩,by omega⟩;((conv=>whnf);repeat (first | exact ⟨⟩ | (refine ⟨by first | rfl | (simp;done) | (simp;omega),?_⟩;conv=>whnf)))
         | false=>
           (conv=>whnf);(repeat (refine gw rfl ?_;conv=>whnf));rw [Pq hlt h1]
        ·have:i=l.length:=(by simp at hb;omega);subst this;rw [List.take_length] at ht;(repeat (refine gw rfl ?_;conv=>whnf));rw [ht]
theorem Tryz.XQ (t:Tm):Pure Tryz.prog 93 [tD t.name t.args] [.bool (qZ false 4 t)]:=by
 have h:=Tryz.Mc true 4 (by omega) t;generalize t.name=n at *;generalize t.args=l at *;refine Pure.of_wp hT (nt:=_) (c:=_) Tryz.func93 rfl rfl rfl rfl (by kernel_rfl) ?_;intro w0 ok0 β0;repeat (refine gw rfl ?_;conv=>whnf)
 refine .inl ⟨_,h,.inl rfl,?_⟩;conv=>whnf
 repeat (refine gw rfl ?_;conv=>whnf)
 rfl
theorem Tryz.Ui (t:Tm):Pure Tryz.prog 96 [tD t.name t.args] [.int .i64 (bY t)]:=by
 unfold bY;generalize t.name=n;generalize t.args=l;refine Pure.of_wp hT (nt:=_) (c:=_) Tryz.func96 rfl rfl rfl rfl (by kernel_rfl) ?_;intro w0 ok0 β0;repeat (refine gw rfl ?_;conv=>whnf)
 (split<;>rename_i hb<;>(try rw [hb])<;>(conv=>whnf))
 ·have h0:l.length≠0:=by simp at hb;omega
  rw [if_neg h0];repeat (refine gw rfl ?_;conv=>whnf)
 ·have h0:l.length=0:=by simp at hb;simp [hb]
  rw [if_pos h0];repeat (refine gw rfl ?_;conv=>whnf)
  refine .inl ⟨_,Tryz.Ob n,.inl rfl,?_⟩;conv=>whnf
  repeat (refine gw rfl ?_;conv=>whnf)
  cases hn:eF n with
  | true=>
    (repeat (refine gw rfl ?_;conv=>whnf));rfl
  | false=>
    (conv=>whnf);(repeat (refine gw rfl ?_;conv=>whnf));refine .inl ⟨_,Tryz.DL n,.inl rfl,?_⟩;(conv=>whnf);(repeat (refine gw rfl ?_;conv=>whnf));cases hv:vw n with
    | true=>
      (repeat (refine gw rfl ?_;conv=>whnf));rfl
    | false=>
      (conv=>whnf);(repeat (refine gw rfl ?_;conv=>whnf));rfl
def YR (x:Tm):Prop:=∀ y:Tm,okT x→okT y→Pure Tryz.prog 58 [tD x.name x.args,tD y.name y.args] [.int .i64 (qM x y)]
theorem Tryz.Vy (l m:List Tm) (hl:l.length≤9223372036854775807) (ok1:∀ x∈l,okT x) (ok2:∀ x∈m,okT x) (h:∀ x∈l,YR x):Pure Tryz.prog 99 [.list (l.map enT),.list (m.map enT)] [.int .i64 (jc l m)]:=by
 refine Pure.of_wp hT (nt:=_) (c:=_) Tryz.func99 rfl rfl rfl rfl (by kernel_rfl) ?_;intro w0 ok0 β0;repeat (refine gw rfl ?_;conv=>whnf)
 refine WP.loop (α:=Nat) (fun i=>⟨[(0,.d (.list (l.map enT))),(1,.d (.list (m.map enT))),(5,.d (.int .i64 i))],[],[]⟩) (fun i=>(i≤l.length∧i≤m.length)∧jc l m=jc (l.drop i) (m.drop i)) (fun i=>l.length-i) 0 [] [] ?_ ?_ ?_
 ·((conv=>whnf);repeat (first | exact ⟨⟩ | (refine ⟨by first | rfl | (simp;done) | (simp;omega),?_⟩;conv=>whnf)))
 ·simp
 ·rintro i ⟨⟨hi,hj⟩,ht⟩;repeat (refine gw rfl ?_;conv=>whnf)
  (split<;>rename_i hb<;>(try rw [hb])<;>(conv=>whnf))
  ·have hlt:i<l.length:=(by simpa using hb);clear hb;(repeat (refine gw rfl ?_;conv=>whnf));(split<;>rename_i hb<;>(try rw [hb])<;>(conv=>whnf))
   ·have hlm:i<m.length:=(by simpa using hb);clear hb;rw [GL hlt hlm] at ht;(repeat (refine gw rfl ?_;conv=>whnf));refine ⟨by omega,_,kD hlt,rfl,?_⟩;(conv=>whnf);refine ⟨by omega,_,kD hlm,rfl,?_⟩;(conv=>whnf);refine .inl ⟨_,h _ (List.getElem_mem hlt) m[i] (ok1 _ (List.getElem_mem hlt)) (ok2 _ (List.getElem_mem hlm)),.inl rfl,?_⟩;(conv=>whnf);(repeat (refine gw rfl ?_;conv=>whnf));(split<;>rename_i hb<;>(try rw [hb])<;>(conv=>whnf))
    ·have h0:qM l[i] m[i]≠0:=(by simpa using hb);rw [if_pos h0] at ht;(repeat (refine gw rfl ?_;conv=>whnf));rw [ht]
    ·have h0:qM l[i] m[i]=0:=(by simpa using hb);rw [if_neg (by omega)] at ht;(repeat (refine gw rfl ?_;conv=>whnf));refine ⟨by omega,?_⟩;(conv=>whnf);refine ⟨i+1,[],[],?_,⟨⟨by omega,by omega⟩,ht⟩,by omega⟩;((conv=>whnf);repeat (first | exact ⟨⟩ | (refine ⟨by first | rfl | (simp;done) | (simp;omega),?_⟩;conv=>whnf)))
   ·have:i=m.length:=(by simp at hb;omega);(repeat (refine gw rfl ?_;conv=>whnf));refine .inl ⟨_,Tryz.sign _ _,.inl rfl,?_⟩;(conv=>whnf);(repeat (refine gw rfl ?_;conv=>whnf));rw [ht,uT (by omega) (by omega) (.inr this)];simp
  ·have:i=l.length:=(by simp at hb;omega);(repeat (refine gw rfl ?_;conv=>whnf));refine .inl ⟨_,Tryz.sign _ _,.inl rfl,?_⟩;(conv=>whnf);(repeat (refine gw rfl ?_;conv=>whnf));rw [ht,uT (by omega) (by omega) (.inl this)];simp
theorem Tryz.Vw:∀ x:Tm,YR x:=Tm.ind fun x ih y okx oky=>by
 have c1:=Tryz.Ui x;have c2:=Tryz.Ui y;have hl:=Tryz.Vy x.args y.args (nG.1 okx).1 (nG.1 okx).2 (nG.1 oky).2 ih;rw [LP];clear ih okx oky;generalize bY x=cx at *;generalize bY y=cy at *;generalize x.name=n at *;generalize x.args=l at *;generalize y.name=m at *;generalize y.args=k at *;refine Pure.of_wp hT (nt:=_) (c:=_) Tryz.func58 rfl rfl rfl rfl (by kernel_rfl) ?_;intro w0 ok0 β0;repeat (refine gw rfl ?_;conv=>whnf)
 refine .inl ⟨_,c1,.inl rfl,?_⟩;conv=>whnf
 refine .inl ⟨_,c2,.inl rfl,?_⟩;conv=>whnf
 refine .inl ⟨_,Tryz.sign cx cy,.inl rfl,?_⟩;conv=>whnf
 repeat (refine gw rfl ?_;conv=>whnf)
 (split<;>rename_i hb<;>(try rw [hb])<;>(conv=>whnf))
 ·have h0:bC cx cy≠0:=by simpa using hb
  rw [if_pos h0];repeat (refine gw rfl ?_;conv=>whnf)
 rw [if_neg (by simpa using hb)];clear hb;repeat (refine gw rfl ?_;conv=>whnf)
 refine .inl ⟨_,c1,.inl rfl,?_⟩;conv=>whnf
 repeat (refine gw rfl ?_;conv=>whnf)
 (split<;>rename_i hb<;>(try rw [hb])<;>(conv=>whnf))
 ·have h0:cx=0:=by simpa using hb
  rw [if_pos h0];repeat (refine gw rfl ?_;conv=>whnf)
  refine .inl ⟨_,Tryz.Rx n,.inl rfl,?_⟩;conv=>whnf
  refine .inl ⟨_,Tryz.Rx m,.inl rfl,?_⟩;conv=>whnf
  refine .inl ⟨_,Tryz.sign _ _,.inl rfl,?_⟩;conv=>whnf
  repeat (refine gw rfl ?_;conv=>whnf)
 rw [if_neg (by simpa using hb)];clear hb;repeat (refine gw rfl ?_;conv=>whnf)
 (split<;>rename_i hb<;>(try rw [hb])<;>(conv=>whnf))
 ·have h0:l.length≠k.length:=by simp at hb;omega
  rw [if_pos h0];repeat (refine gw rfl ?_;conv=>whnf)
  refine .inl ⟨_,Tryz.sign _ _,.inl rfl,?_⟩;conv=>whnf
  repeat (refine gw rfl ?_;conv=>whnf)
  simp
 have h0:l.length=k.length:=by simp at hb;omega
 rw [if_neg (by omega)];clear hb;repeat (refine gw rfl ?_;conv=>whnf)
 refine .inl ⟨_,Tryz.UE n m,.inl rfl,?_⟩;conv=>whnf
 repeat (refine gw rfl ?_;conv=>whnf)
 (split<;>rename_i hb<;>(try rw [hb])<;>(conv=>whnf))
 ·have h1:eY n m≠0:=by simpa using hb
  rw [if_pos h1];repeat (refine gw rfl ?_;conv=>whnf)
 rw [if_neg (by simpa using hb)];clear hb;repeat (refine gw rfl ?_;conv=>whnf)
 refine .inl ⟨_,hl,.inl rfl,?_⟩;conv=>whnf
 repeat (refine gw rfl ?_;conv=>whnf)
def kV (t:Tm):Int:=if bY t=0 then mP t.name else 0
def kN (t:Tm):Str:=if bY t=0 then [] else t.name
def Xe (t:Tm):D := .agg [.int .i64 (bY t),.int .i64 (kV t),.int .i64 t.args.length,.str (kN t)]
theorem Tryz.kindOf (t:Tm):Pure Tryz.prog 121 [tD t.name t.args] [Xe t]:=by
 unfold Xe kV kN bY;generalize t.name=n;generalize t.args=l;refine Pure.of_wp hT (nt:=_) (c:=_) Tryz.func121 rfl rfl rfl rfl (by kernel_rfl) ?_;intro w0 ok0 β0;repeat (refine gw rfl ?_;conv=>whnf)
 (split<;>rename_i hb<;>(try rw [hb])<;>(conv=>whnf))
 ·have h0:l.length≠0:=by simp at hb;omega
  rw [if_neg h0];repeat (refine gw rfl ?_;conv=>whnf)
  (repeat (refine ⟨by first | rfl | omega,?_⟩;conv=>whnf));repeat (refine gw rfl ?_;conv=>whnf)
  simp
 ·have h0:l.length=0:=by simp at hb;simp [hb]
  rw [if_pos h0];repeat (refine gw rfl ?_;conv=>whnf)
  refine .inl ⟨_,Tryz.number n,.inl rfl,?_⟩;conv=>whnf
  repeat (refine gw rfl ?_;conv=>whnf)
  cases hn:eF n with
  | true=>
    (conv=>whnf);(repeat (refine gw rfl ?_;conv=>whnf));(repeat (refine ⟨by first | rfl | omega,?_⟩;conv=>whnf));(repeat (refine gw rfl ?_;conv=>whnf));simp [h0]
  | false=>
    (conv=>whnf);(repeat (refine gw rfl ?_;conv=>whnf));refine .inl ⟨_,Tryz.variable n,.inl rfl,?_⟩;(conv=>whnf);(repeat (refine gw rfl ?_;conv=>whnf));cases hv:vw n with
    | true=>
      (conv=>whnf);(repeat (refine gw rfl ?_;conv=>whnf));(repeat (refine ⟨by first | rfl | omega,?_⟩;conv=>whnf));(repeat (refine gw rfl ?_;conv=>whnf));simp [h0]
    | false=>
      (conv=>whnf);(repeat (refine gw rfl ?_;conv=>whnf));(repeat (refine ⟨by first | rfl | omega,?_⟩;conv=>whnf));(repeat (refine gw rfl ?_;conv=>whnf));simp [h0]
theorem Tryz.within (v:Bool):∀ (k:Nat),k≤1000→∀ t:Tm,Pure Tryz.prog 132 [tD t.name t.args,.int .i64 k,.bool v] [.bool (qZ v k t)]
 | 0,_,t=>by
   obtain ⟨n,l⟩:=t;refine Pure.of_wp hT (nt:=_) (c:=_) Tryz.func132 rfl rfl rfl rfl (by kernel_rfl) ?_;intro w0 ok0 β0;(repeat (refine gw rfl ?_;conv=>whnf));rw [qZ]
 | k+1,hk,t=>by
   have ih:=Tryz.within v k (by omega);rw [Rw];generalize t.name=n;generalize t.args=l;refine Pure.of_wp hT (nt:=_) (c:=_) Tryz.func132 rfl rfl rfl rfl (by kernel_rfl) ?_;intro w0 ok0 β0;(repeat (refine gw rfl ?_;conv=>whnf));rw [decide_eq_false (p:=(((k+1:Nat):Int)<1)) (by omega)];(conv=>whnf);(repeat (refine gw rfl ?_;conv=>whnf));(split<;>rename_i hb<;>(try rw [hb])<;>(conv=>whnf))
   ·have h4:¬ l.length≤4:=(by simp at hb;omega);rw [if_neg h4];repeat (refine gw rfl ?_;conv=>whnf)
   ·have h4:l.length≤4:=(by simp at hb;omega);clear hb;rw [if_pos h4];(repeat (refine gw rfl ?_;conv=>whnf));(split<;>rename_i hb<;>(try rw [hb])<;>(conv=>whnf))
    ·have h0:l.length=0:=(by simp at hb;simp [hb]);rw [if_pos h0];(repeat (refine gw rfl ?_;conv=>whnf));refine .inl ⟨_,Tryz.name n,.inl rfl,?_⟩;(conv=>whnf);cases h1:nameB n with
     | true=>
       (conv=>whnf);(repeat (refine gw rfl ?_;conv=>whnf));rfl
     | false=>
       (conv=>whnf);refine .inl ⟨_,Tryz.Zh n,.inl rfl,?_⟩;(conv=>whnf);cases h2:eF n with
       | true=>
         (conv=>whnf);(repeat (refine gw rfl ?_;conv=>whnf));rfl
       | false=>
         (conv=>whnf);cases v with
         | false=>
           (conv=>whnf);(repeat (refine gw rfl ?_;conv=>whnf));rfl
         | true=>
           (conv=>whnf);refine .inl ⟨_,Tryz.variable n,.inl rfl,?_⟩;(conv=>whnf);(repeat (refine gw rfl ?_;conv=>whnf));rfl
    ·have h0:l.length≠0:=(by simp at hb;simpa using hb);rw [if_neg h0];(repeat (refine gw rfl ?_;conv=>whnf));refine WP.loop (α:=Nat) (fun i=>⟨[(1,.d (.int .i64 ((k+1:Nat):Int))),(2,.d (.bool v)),(3,.d (.ref [.str n,.list (l.map enT)] 0)),(38,.d (.list (l.map enT))),(39,.d (.int .i64 l.length)),(40,.d (.int .i64 i))],[],[]⟩) (fun i=>i≤l.length∧(l.take i).all (qZ v k)=true) (fun i=>l.length-i) 0 [] [] ?_ ?_ ?_
     ·((conv=>whnf);repeat (first | exact ⟨⟩ | (refine ⟨by first | rfl | (simp;done) | (simp;omega),?_⟩;conv=>whnf)))
     ·simp
     ·rintro i ⟨hi,ht⟩;(repeat (refine gw rfl ?_;conv=>whnf));(split<;>rename_i hb<;>(try rw [hb])<;>(conv=>whnf))
      ·have hlt:i<l.length:=(by simpa using hb);clear hb;(repeat (refine gw rfl ?_;conv=>whnf));refine ⟨by omega,_,kD hlt,rfl,?_⟩;(conv=>whnf);(repeat (refine gw rfl ?_;conv=>whnf));refine ⟨by omega,?_⟩;rw [show ((k+1:Nat):Int)-1=(k:Nat) by omega];(conv=>whnf);refine .inl ⟨_,ih l[i],.inl rfl,?_⟩;(conv=>whnf);cases h1:qZ v k l[i] with
       | true=>
         (conv=>whnf);(repeat (refine gw rfl ?_;conv=>whnf));refine ⟨by omega,?_⟩;(conv=>whnf);refine ⟨i+1,[],[],?_,⟨by omega,JV hlt ht h1⟩,by omega⟩;((conv=>whnf);repeat (first | exact ⟨⟩ | (refine ⟨by first | rfl | (simp;done) | (simp;omega),?_⟩;conv=>whnf)))
       | false=>
         (conv=>whnf);(repeat (refine gw rfl ?_;conv=>whnf));rw [Pq hlt h1];rfl
      ·have:i=l.length:=(by simp at hb;omega);subst this;rw [List.take_length] at ht;(repeat (refine gw rfl ?_;conv=>whnf));refine .inl ⟨_,Tryz.name n,.inl rfl,?_⟩;(conv=>whnf);(repeat (refine gw rfl ?_;conv=>whnf));rw [ht];rfl
theorem Tryz.ZK (t:Tm):Pure Tryz.prog 103 [tD t.name t.args] [.bool (qZ false 4 t)]:=by
 have h:=Tryz.within false 4 (by omega) t;generalize t.name=n at *;generalize t.args=l at *;refine Pure.of_wp hT (nt:=_) (c:=_) Tryz.func103 rfl rfl rfl rfl (by kernel_rfl) ?_;intro w0 ok0 β0;repeat (refine gw rfl ?_;conv=>whnf)
 refine .inl ⟨_,h,.inl rfl,?_⟩;conv=>whnf
 repeat (refine gw rfl ?_;conv=>whnf)
def afY (x:Tm):Prop:=∀ y:Tm,okT x→okT y→Pure Tryz.prog 87 [tD x.name x.args,tD y.name y.args] [.int .i64 (qM x y)]
theorem Tryz.aae (l m:List Tm) (hl:l.length≤9223372036854775807) (ok1:∀ x∈l,okT x) (ok2:∀ x∈m,okT x) (h:∀ x∈l,afY x):Pure Tryz.prog 122 [.list (l.map enT),.list (m.map enT)] [.int .i64 (jc l m)]:=by
 refine Pure.of_wp hT (nt:=_) (c:=_) Tryz.func122 rfl rfl rfl rfl (by kernel_rfl) ?_;intro w0 ok0 β0;repeat (refine gw rfl ?_;conv=>whnf)
 refine WP.loop (α:=Nat) (fun i=>⟨[(0,.d (.list (l.map enT))),(1,.d (.list (m.map enT))),(5,.d (.int .i64 i))],[],[]⟩) (fun i=>(i≤l.length∧i≤m.length)∧jc l m=jc (l.drop i) (m.drop i)) (fun i=>l.length-i) 0 [] [] ?_ ?_ ?_
 ·((conv=>whnf);repeat (first | exact ⟨⟩ | (refine ⟨by first | rfl | (simp;done) | (simp;omega),?_⟩;conv=>whnf)))
 ·simp
 ·rintro i ⟨⟨hi,hj⟩,ht⟩;repeat (refine gw rfl ?_;conv=>whnf)
  (split<;>rename_i hb<;>(try rw [hb])<;>(conv=>whnf))
  ·have hlt:i<l.length:=(by simpa using hb);clear hb;(repeat (refine gw rfl ?_;conv=>whnf));(split<;>rename_i hb<;>(try rw [hb])<;>(conv=>whnf))
   ·have hlm:i<m.length:=(by simpa using hb);clear hb;rw [GL hlt hlm] at ht;(repeat (refine gw rfl ?_;conv=>whnf));refine ⟨by omega,_,kD hlt,rfl,?_⟩;(conv=>whnf);refine ⟨by omega,_,kD hlm,rfl,?_⟩;(conv=>whnf);refine .inl ⟨_,h _ (List.getElem_mem hlt) m[i] (ok1 _ (List.getElem_mem hlt)) (ok2 _ (List.getElem_mem hlm)),.inl rfl,?_⟩;(conv=>whnf);(repeat (refine gw rfl ?_;conv=>whnf));(split<;>rename_i hb<;>(try rw [hb])<;>(conv=>whnf))
    ·have h0:qM l[i] m[i]≠0:=(by simpa using hb);rw [if_pos h0] at ht;(repeat (refine gw rfl ?_;conv=>whnf));rw [ht]
    ·have h0:qM l[i] m[i]=0:=(by simpa using hb);rw [if_neg (by omega)] at ht;(repeat (refine gw rfl ?_;conv=>whnf));refine ⟨by omega,?_⟩;(conv=>whnf);refine ⟨i+1,[],[],?_,⟨⟨by omega,by omega⟩,ht⟩,by omega⟩;((conv=>whnf);repeat (first | exact ⟨⟩ | (refine ⟨by first | rfl | (simp;done) | (simp;omega),?_⟩;conv=>whnf)))
   ·have:i=m.length:=(by simp at hb;omega);(repeat (refine gw rfl ?_;conv=>whnf));refine .inl ⟨_,Tryz.order _ _,.inl rfl,?_⟩;(conv=>whnf);(repeat (refine gw rfl ?_;conv=>whnf));rw [ht,uT (by omega) (by omega) (.inr this)];simp
  ·have:i=l.length:=(by simp at hb;omega);(repeat (refine gw rfl ?_;conv=>whnf));refine .inl ⟨_,Tryz.order _ _,.inl rfl,?_⟩;(conv=>whnf);(repeat (refine gw rfl ?_;conv=>whnf));rw [ht,uT (by omega) (by omega) (.inl this)];simp
theorem Fb (t:Tm):(bY t=0∧t.args.length=0)∨bY t≠0:=by
 unfold bY;by_cases h:t.args.length=0
 ·rw [if_pos h];by_cases h1:eF t.name=true
  ·rw [if_pos h1];exact .inl ⟨rfl,h⟩
  ·rw [if_neg h1];right;split<;>decide
 ·rw [if_neg h];right;decide
theorem JJ (a:Int):bC a a=0:=by unfold bC;rw [if_neg (by omega),if_neg (by omega)]
theorem Tryz.compare:∀ x:Tm,afY x:=Tm.ind fun x ih y okx oky=>by
 have c1:=Tryz.kindOf x;have c2:=Tryz.kindOf y;have hl:=Tryz.aae x.args y.args (nG.1 okx).1 (nG.1 okx).2 (nG.1 oky).2 ih;have hx:=Fb x;have hy:=Fb y;rw [LP];unfold Xe kV kN at c1 c2;clear ih okx oky;generalize bY x=cx at *;generalize bY y=cy at *;generalize x.name=n at *;generalize x.args=l at *;generalize y.name=m at *;generalize y.args=k at *;generalize hvx:(if cx=0 then mP n else 0)=vx at *;generalize hvy:(if cy=0 then mP m else 0)=vy at *;generalize hnx:(if cx=0 then [] else n)=nx at *;generalize hny:(if cy=0 then [] else m)=ny at *;refine Pure.of_wp hT (nt:=_) (c:=_) Tryz.func87 rfl rfl rfl rfl (by kernel_rfl) ?_;intro w0 ok0 β0;repeat (refine gw rfl ?_;conv=>whnf)
 refine .inl ⟨_,c1,.inl rfl,?_⟩;conv=>whnf
 refine .inl ⟨_,c2,.inl rfl,?_⟩;conv=>whnf
 repeat (refine gw rfl ?_;conv=>whnf)
 have he:aI [.int .i64 cx,.int .i64 vx,.int .i64 (l.length:Int),.str nx] [.int .i64 cy,.int .i64 vy,.int .i64 (k.length:Int),.str ny]=(decide (cx=cy)&&(decide (vx=vy)&&(decide (l.length=k.length)&&decide (nx=ny)))):=by
  simp only [aI,eq1];by_cases h1:cx=cy<;>by_cases h2:vx=vy<;>by_cases h3:l.length=k.length<;>by_cases h4:nx=ny<;>(simp [h1,h2,h3,h4]<;>omega)
 rw [he];by_cases h1:cx=cy
 ·subst h1;rw [if_neg (by simp [JJ])];by_cases h0:cx=0
  ·have hlx:l.length=0:=hx.elim (fun h=>h.2) (fun h=>absurd h0 h);have hly:k.length=0:=hy.elim (fun h=>h.2) (fun h=>absurd h0 h);rw [if_pos h0];rw [if_pos h0] at hvx hvy hnx hny;subst hvx;subst hvy;subst hnx;subst hny;by_cases h2:mP n=mP m
   ·rw [decide_eq_true rfl,decide_eq_true h2,decide_eq_true (hlx.trans hly.symm),decide_eq_true rfl];(conv=>whnf);(repeat (refine gw rfl ?_;conv=>whnf));refine .inl ⟨_,hl,.inl rfl,?_⟩;(conv=>whnf);(repeat (refine gw rfl ?_;conv=>whnf));have e1:l=[]:=List.length_eq_zero_iff.1 hlx;have e2:k=[]:=List.length_eq_zero_iff.1 hly;rw [e1,e2,h2,JJ,jc]
   ·rw [decide_eq_true rfl,decide_eq_false h2];(conv=>whnf);(repeat (refine gw rfl ?_;conv=>whnf));rw [show (cx != cx)=false by simp];(conv=>whnf);(repeat (refine gw rfl ?_;conv=>whnf));rw [show (mP n != mP m)=true by simpa using h2];(conv=>whnf);(repeat (refine gw rfl ?_;conv=>whnf));refine .inl ⟨_,Tryz.order _ _,.inl rfl,?_⟩;(conv=>whnf);repeat (refine gw rfl ?_;conv=>whnf)
  ·rw [if_neg h0];rw [if_neg h0] at hvx hvy hnx hny;subst hvx;subst hvy;subst hnx;subst hny;by_cases h3:l.length=k.length
   ·rw [if_neg (by omega)];by_cases h4:n=m
    ·subst h4;rw [decide_eq_true rfl,decide_eq_true rfl,decide_eq_true h3,decide_eq_true rfl,if_neg (by simp [uX])];(conv=>whnf);(repeat (refine gw rfl ?_;conv=>whnf));refine .inl ⟨_,hl,.inl rfl,?_⟩;(conv=>whnf);repeat (refine gw rfl ?_;conv=>whnf)
    ·rw [decide_eq_true rfl,decide_eq_true rfl,decide_eq_true h3,decide_eq_false h4,if_pos (fun h=>h4 (uX.1 h))];(conv=>whnf);(repeat (refine gw rfl ?_;conv=>whnf));rw [show (cx != cx)=false by simp];(conv=>whnf);(repeat (refine gw rfl ?_;conv=>whnf));rw [show ((l.length:Int) != (k.length:Int))=false by simp [h3]];(conv=>whnf);(repeat (refine gw rfl ?_;conv=>whnf));refine .inl ⟨_,Tryz.DU _ _,.inl rfl,?_⟩;(conv=>whnf);repeat (refine gw rfl ?_;conv=>whnf)
   ·rw [if_pos h3,decide_eq_true rfl,decide_eq_true rfl,decide_eq_false h3];(conv=>whnf);(repeat (refine gw rfl ?_;conv=>whnf));rw [show (cx != cx)=false by simp];(conv=>whnf);(repeat (refine gw rfl ?_;conv=>whnf));rw [show ((l.length:Int) != (k.length:Int))=true by simp;omega];(conv=>whnf);(repeat (refine gw rfl ?_;conv=>whnf));refine .inl ⟨_,Tryz.order _ _,.inl rfl,?_⟩;(conv=>whnf);repeat (refine gw rfl ?_;conv=>whnf)
 ·have hc:bC cx cy≠0:=fun h=>h1 (uV.1 h)
  rw [if_pos hc,decide_eq_false h1];conv=>whnf
  repeat (refine gw rfl ?_;conv=>whnf)
  rw [show (cx != cy)=true by simpa using h1];conv=>whnf
  repeat (refine gw rfl ?_;conv=>whnf)
  refine .inl ⟨_,Tryz.order _ _,.inl rfl,?_⟩;conv=>whnf
  repeat (refine gw rfl ?_;conv=>whnf)
end Go.Proofs.YtdonenoiehdahaaGreat
