/- Plain laws of names, terms and their orders. -/
import Derived.Test.YtpmapognbdiahaaGreatDoorOwnMOne
import Derived.Lib.Join
import Derived.Test.YtpmapognbdiahaaGreatDoorProg
import Derived.Shelf.Abstract
import Derived.Ground.NamesProg
import Derived.WalkKit
import Derived.Lib.Strings
import Derived.WalkSpells
import Derived.Laws.DeepStrings4
import Derived.Shelf.Strings.Cut
set_option linter.all false
namespace Go.Own
abbrev Str:=List UInt8
def rng (a b:Int) (c:UInt8):Bool:=decide (a≤(c.toNat:Int))&&decide ((c.toNat:Int)≤b)
def jA (c:UInt8):Bool:=rng 97 122 c
def oG (c:UInt8):Bool:=rng 65 90 c
def gX (c:UInt8):Bool:=rng 48 57 c
def hyB (c:UInt8):Bool:=rng 45 45 c
def headB (p:UInt8→Bool):Str→Bool | []=>false | c::_=>p c
def jZ (s:Str):Bool:=decide (1≤s.length)&&decide (s.length≤16)
def sIf:Str:=[105,102]
def iM:Str:=[97,110,100]
def iK:Str:=[110,111,116]
def kY (c:UInt8):Bool:=jA c||(gX c||hyB c)
def yC (c:UInt8):Bool:=oG c||(jA c||gX c)
def nameB (s:Str):Bool:=jZ s&&headB jA s&&s.all kY&&!(s==sIf)&&!(s==iM)&&!(s==iK)
theorem kZ {s:Str} (h:jZ s=false∨headB jA s=false∨s.all kY=false∨s=sIf∨s=iM∨s=iK):nameB s=false:=by
 unfold nameB;rcases h with h | h | h | rfl | rfl | rfl
 ·rw [h];rfl
 ·rw [h];simp
 ·rw [h];simp
 ·rfl
 ·rfl
 ·rfl
theorem XJ {s:Str} (h1:jZ s=true) (h2:headB jA s=true) (h3:s.all kY=true) (h4:s≠sIf) (h5:s≠iM) (h6:s≠iK):nameB s=true:=by
 unfold nameB;rw [h1,h2,h3];simp [h4,h5,h6]
def iH (s:Str):Bool:=jZ s&&headB oG s&&s.all yC
theorem Eb {s:Str} (h:jZ s=false∨headB oG s=false∨s.all yC=false):iH s=false:=by
 unfold iH;rcases h with h | h | h<;>(rw [h];simp)
theorem adX {s:Str} (h1:jZ s=true) (h2:headB oG s=true) (h3:s.all yC=true):iH s=true:=by
 unfold iH;rw [h1,h2,h3];rfl
def numAt (n:Int):Str→Int
 | []=>n
 | c::s=>numAt (10*n+((c.toNat:Int)-48)) s
def bM (s:Str):Bool:=decide (1≤s.length)&&decide (s.length≤4)&&!(headB (fun c=>decide ((c.toNat:Int)=48)) s&&decide (1<s.length))&&s.all gX
def oQ (s:Str):Int:=if bM s then numAt 0 s else 0
theorem zq:∀ (l:Str) (n:Int) (c:UInt8),numAt n (l++[c])=10*numAt n l+((c.toNat:Int)-48)
 | [],n,c=>rfl
 | d::l,n,c=>zq l _ c
theorem I9 {c:UInt8}:gX c=true↔48≤(c.toNat:Int)∧(c.toNat:Int)≤57:=by simp [gX,rng]
theorem H9:∀ {l:Str} {n:Int},0≤n→l.all gX=true→0≤numAt n l∧numAt n l<(n+1)*10 ^ l.length
 | [],n,h,_=>by simp [numAt];omega
 | c::l,n,h,hd=>by
   simp only [List.all_cons,Bool.and_eq_true] at hd;obtain ⟨h1,h2⟩:=I9.1 hd.1;have:=H9 (l:=l) (n:=10*n+((c.toNat:Int)-48)) (by omega) hd.2;refine ⟨this.1,Int.lt_of_lt_of_le this.2 ?_⟩;rw [List.length_cons,Int.pow_succ,← Int.mul_assoc,Int.mul_comm ((n+1)*10 ^ l.length) 10,← Int.mul_assoc];refine Int.mul_le_mul_of_nonneg_right (by omega) (Int.le_of_lt (Int.pow_pos (by decide)))
theorem H8 {l:Str} (hl:l.length≤4) (hd:l.all gX=true):0≤numAt 0 l∧numAt 0 l≤9999:=by
 have h:=H9 (Int.le_refl 0) hd;have h5:l.length=0∨l.length=1∨l.length=2∨l.length=3∨l.length=4:=by omega
 rcases h5 with e | e | e | e | e<;>rw [e] at h<;>simp at h<;>omega
theorem kW {s:Str} (h:s.length<1∨4<s.length∨(headB (fun c=>decide ((c.toNat:Int)=48)) s=true∧1<s.length)∨s.all gX=false):bM s=false:=by
 unfold bM;rcases h with h | h | ⟨h,h'⟩ | h
 ·rw [decide_eq_false (p:=1≤s.length) (by omega)];rfl
 ·rw [decide_eq_false (p:=s.length≤4) (by omega)];simp
 ·rw [h,decide_eq_true (p:=1<s.length) h'];simp
 ·rw [h];simp
theorem Nr {s:Str} (h1:1≤s.length) (h2:s.length≤4) (h3:¬ (headB (fun c=>decide ((c.toNat:Int)=48)) s=true∧1<s.length)) (h4:s.all gX=true):bM s=true:=by
 unfold bM;rw [decide_eq_true h1,decide_eq_true h2,h4];simp only [Bool.and_true,Bool.true_and,Bool.not_eq_true',Bool.and_eq_false_iff,decide_eq_false_iff_not];cases hh:headB (fun c=>decide ((c.toNat:Int)=48)) s
 ·exact .inl rfl
 ·exact .inr fun h=>h3 ⟨hh,h⟩
inductive Tm where
 | mk (n:Str) (ts:List Tm)
def Tm.name:Tm→Str | .mk n _=>n
def Tm.args:Tm→List Tm | .mk _ ts=>ts
def bH (vars:Bool):Nat→Tm→Bool
 | 0,_=>false
 | k+1,.mk n ts=>if ts.length≤4 then (if ts.length=0 then nameB n||bM n||(vars&&iH n) else ts.all (bH vars k)&&nameB n) else false
def fH:Str→Str→Int
 | [],[]=>0
 | [],_::_=>-1
 | _::_,[]=>1
 | a::l,b::m=>if a<b then -1 else if b<a then 1 else fH l m
def cu (t:Tm):Int:=if t.args.length=0 then (if bM t.name then 0 else if iH t.name then 2 else 1) else 3
mutual
def jD:Tm→Tm→Int
 | .mk n l,.mk m k=>
   if jc (cu (.mk n l)) (cu (.mk m k))≠0 then jc (cu (.mk n l)) (cu (.mk m k)) else
   if cu (.mk n l)=0 then jc (oQ n) (oQ m) else
   if l.length≠k.length then jc l.length k.length else
   if fH n m≠0 then fH n m else fQ l k
def fQ:List Tm→List Tm→Int
 | [],[]=>0
 | [],_::_=>-1
 | _::_,[]=>1
 | a::l,b::m=>if jD a b≠0 then jD a b else fQ l m
end
theorem Tm.ind {p:Tm→Prop} (h:∀ t:Tm,(∀ x∈t.args,p x)→p t) (t:Tm):p t:=
 Tm.rec (motive_1:=p) (motive_2:=fun l=>∀ x∈l,p x) (fun n l hl=>h (.mk n l) hl) (fun x hx=>by cases hx)
  (fun a l ha hl x hx=>by
   rcases List.mem_cons.1 hx with rfl | hx
   ·exact ha
   ·exact hl x hx) t
theorem Ah {l m:List Tm} {i:Nat} (h:i<l.length) (h':i<m.length):fQ (l.drop i) (m.drop i)=if jD l[i] m[i]≠0 then jD l[i] m[i] else fQ (l.drop (i+1)) (m.drop (i+1)):=by
 rw [List.drop_eq_getElem_cons h,List.drop_eq_getElem_cons h',fQ]
theorem qp {l m:List Tm} {i:Nat} (h:i≤l.length) (h':i≤m.length) (he:i=l.length∨i=m.length):fQ (l.drop i) (m.drop i)=jc l.length m.length:=by
 unfold jc;rcases he with rfl | rfl
 ·rw [List.drop_length];rcases Nat.lt_or_ge l.length m.length with hlt | hge
  ·rw [List.drop_eq_getElem_cons hlt,fQ,if_pos (by omega)]
  ·have:l.length=m.length:=(by omega);rw [this,List.drop_length,fQ,if_neg (by omega),if_neg (by omega)]
 ·rw [List.drop_length];rcases Nat.lt_or_ge m.length l.length with hlt | hge
  ·rw [List.drop_eq_getElem_cons hlt,fQ,if_neg (by omega),if_pos (by omega)]
  ·have:l.length=m.length:=(by omega);rw [← this,List.drop_length,fQ,if_neg (by omega),if_neg (by omega)]
def parens:List Str→Str
 | []=>[]
 | x::r=>[40]++Lib.join (x::r) [44]++[41]
mutual
def aH:Tm→Str
 | .mk n l=>n++parens (Ed l)
def Ed:List Tm→List Str
 | []=>[]
 | t::ts=>aH t::Ed ts
end
theorem yE:∀ l:List Tm,Ed l=l.map aH
 | []=>rfl
 | t::ts=>by rw [Ed,yE ts];rfl
theorem fE (n:Str) (l:List Tm):aH (.mk n l)=n++parens (l.map aH):=by rw [aH,yE]
theorem wO {sep:Str} {k:Nat} (hs:sep.length≤k):∀ (l:List Str),(Lib.joinTail sep l).length≤(l.map fun x=>x.length+k).sum
 | []=>by simp [Lib.joinTail]
 | x::r=>by
   have:=wO hs r;simp only [Lib.joinTail,List.map_cons,List.flatten_cons,List.length_append,List.sum_cons] at this ⊢;omega
theorem join_le {sep:Str} {k:Nat} (hs:sep.length≤k) (l:List Str):(Lib.join l sep).length≤(l.map fun x=>x.length+k).sum:=by
 cases l with
 | nil=>simp [Lib.join_nil]
 | cons x r=>
   rw [Lib.join_cons,List.length_append,List.map_cons,List.sum_cons];have:=wO hs r;omega
theorem Df {l:List Str} {x:Str} (h:x∈l) (sep:Str):x.length≤(Lib.join l sep).length:=by
 cases l with
 | nil=>cases h
 | cons y r=>
   rw [Lib.join_cons,List.length_append];rcases List.mem_cons.1 h with rfl | h'
   ·omega
   ·suffices x.length≤(Lib.joinTail sep r).length by omega
    clear h;have h:=h';clear h' y
    induction r with
    | nil=>cases h
    | cons z r ih=>
      simp only [Lib.joinTail,List.map_cons,List.flatten_cons,List.length_append];rcases List.mem_cons.1 h with rfl | h
      ·omega
      ·have:=ih h;simp only [Lib.joinTail] at this;omega
abbrev Sn:=Tm×List Tm
def textS (s:Sn):Str:=aH s.1++[58,32]++Lib.join (s.2.map aH) [44,32]++[10]
def bI (l:List Sn):Str:=(l.map textS).flatten
theorem nY {l:List Sn} {i:Nat} (h:i<l.length):bI (l.take (i+1))=bI (l.take i)++textS l[i]:=by
 rw [bI,List.take_succ_eq_append_getElem h,List.map_append,List.flatten_append];simp only [bI,List.map_cons,List.map_nil,List.flatten_cons,List.flatten_nil,List.append_nil]
theorem AU (l:List Sn) (i:Nat):(bI (l.take i)).length≤(bI l).length:=by
 have:bI l=bI (l.take i)++bI (l.drop i):=by rw [bI,bI,bI,← List.flatten_append,← List.map_append,List.take_append_drop]
 rw [this,List.length_append];omega
theorem Rq {l:List Sn} {i:Nat} (h:i<l.length):(bI (l.take i)).length+(textS l[i]).length≤(bI l).length:=by
 have:=AU l (i+1);rw [nY h,List.length_append] at this;exact this
theorem Qs (x:Str) (r:List Str) (y sep:Str):Lib.join (x::r++[y]) sep=Lib.join (x::r) sep++sep++y:=by
 rw [List.cons_append,Lib.join_cons,Lib.join_cons];simp [Lib.joinTail]
def nR (sep:Str) (l:List Tm) (k:Nat):Str:=Lib.join ((l.take k).map aH) sep
theorem Iz {sep:Str} {l:List Tm} {k:Nat} (h:k<l.length):nR sep l (k+1)=nR sep l k++(if k=0 then [] else sep)++aH l[k]:=by
 unfold nR;rw [List.take_succ_eq_append_getElem h,List.map_append];cases k with
 | zero=>simp [Lib.join_one,Lib.join_nil]
 | succ k=>
   obtain ⟨x,r,hr⟩:∃ x r,(l.take (k+1)).map aH=x::r:=by
    cases hl:(l.take (k+1)).map aH with
    | nil=>have:=congrArg List.length hl;rw [List.length_map,List.length_take,List.length_nil] at this;omega
    | cons x r=>exact ⟨x,r,rfl⟩
   rw [hr,List.map_cons,List.map_nil,Qs];simp
theorem Qu (sep:Str) (l:List Tm) (k:Nat):(nR sep l k).length≤(Lib.join (l.map aH) sep).length:=by
 unfold nR;rw [List.map_take];generalize l.map aH=xs;cases xs with
 | nil=>simp
 | cons x r=>
   cases k with
   | zero=>simp [Lib.join_nil]
   | succ k=>
     rw [List.take_succ_cons,Lib.join_cons,Lib.join_cons,List.length_append,List.length_append];have:=Lib.joinTail_take_le sep r k;omega
abbrev dM (l:List Tm) (k:Nat):Str:=nR [44] l k
theorem xg {l:List Tm} {k:Nat} (h:k<l.length):dM l (k+1)=dM l k++(if k=0 then [] else [44])++aH l[k]:=Iz h
theorem wB (l:List Tm) (k:Nat):(dM l k).length≤(Lib.join (l.map aH) [44]).length:=Qu [44] l k
abbrev Tk:=Nat×Str×Nat
def dB (c:UInt8):Bool:=jA c||(oG c||(gX c||hyB c))
def eP (c:UInt8):Bool:=c==32||(c==9||(c==10||c==13))
def qE (c:UInt8):Bool:=c==40||(c==41||(c==44||c==46))
def dG (s:Str):Nat:=if s=sIf∨s=iM∨s=iK then 5 else if nameB s=true then 1 else if bM s=true then 2 else if iH s=true then 3 else 0
def dh:Nat→Nat→Str→Option (List Tk)
 | 0,_,_=>none
 | _+1,n,[]=>some [(0,[],n)]
 | f+1,n,c::r=>
   if eP c=true then dh f (n+1) r
   else if c=35 then dh f (n+1+(r.takeWhile (· != 10)).length) (r.dropWhile (· != 10))
   else if dB c=true then
    if dG ((c::r).takeWhile dB)=0 then none
    else (dh f (n+((c::r).takeWhile dB).length) ((c::r).dropWhile dB)).map ((dG ((c::r).takeWhile dB),(c::r).takeWhile dB,n)::·)
   else if qE c=true then (dh f (n+1) r).map ((4,[c],n)::·)
   else none
mutual
def tkT:Nat→Tm→List Tk
 | n,.mk s l=>(dG s,s,n)::(match l with | []=>[] | t::ts=>(4,[40],n+s.length)::(tkT (n+s.length+1) t++tkR (n+s.length+1+(aH t).length) ts))
def tkR:Nat→List Tm→List Tk
 | n,[]=>[(4,[41],n)]
 | n,t::ts=>(4,[44],n)::(tkT (n+1) t++tkR (n+1+(aH t).length) ts)
end
def gK (l:List Tm):Str:=(l.flatMap fun t=>[44]++aH t)++[41]
theorem wK (t:Tm) (l:List Tm):parens (aH t::l.map aH)=[40]++(aH t++gK l):=by
 have h:Lib.joinTail [44] (l.map aH)=l.flatMap fun t=>[44]++aH t:=by
  rw [Lib.joinTail,List.map_map,List.flatMap_def];rfl
 rw [parens,Lib.join_cons,h,gK];simp
theorem gY {p:UInt8→Bool}:∀ {a b:Str},a.all p=true→headB p b=false→(a++b).takeWhile p=a∧(a++b).dropWhile p=b
 | [],[],_,_=>⟨rfl,rfl⟩
 | [],c::b,_,h=>by
   have h:p c=false:=h;simp [h]
 | c::a,b,h,hb=>by
   simp only [List.all_cons,Bool.and_eq_true] at h;obtain ⟨h1,h2⟩:=gY h.2 hb;simp [h.1,h1,h2]
theorem pY {c:UInt8}:dB c=true↔(97≤(c.toNat:Int)∧(c.toNat:Int)≤122)∨(65≤(c.toNat:Int)∧(c.toNat:Int)≤90)∨(48≤(c.toNat:Int)∧(c.toNat:Int)≤57)∨(c.toNat:Int)=45:=by
 simp [dB,jA,oG,gX,hyB,rng];omega
theorem Ej {c:UInt8} (h:dB c=true):eP c=false∧c≠35:=by
 rw [pY] at h;refine ⟨?_,fun e=>by subst e;simp at h⟩;unfold eP;simp only [Bool.or_eq_false_iff,beq_eq_false_iff_ne];refine ⟨fun e=>?_,fun e=>?_,fun e=>?_,fun e=>?_⟩<;>(subst e;simp at h)
theorem qo {s:Str} (h:nameB s=true∨bM s=true):s≠[]∧s.all dB=true∧dG s≠0:=by
 rcases h with h | h
 ·have h0:=h;unfold nameB at h;simp only [Bool.and_eq_true,Bool.not_eq_true'] at h;obtain ⟨⟨⟨⟨⟨h1,h2⟩,h3⟩,h4⟩,h5⟩,h6⟩:=h;refine ⟨fun e=>by subst e;simp [headB] at h2,?_,?_⟩
  ·rw [List.all_eq_true] at h3 ⊢;intro c hc;have:=h3 c hc;simp only [kY,Bool.or_eq_true] at this;simp only [dB,Bool.or_eq_true];rcases this with h | h | h
   ·exact .inl h
   ·exact .inr (.inr (.inl h))
   ·exact .inr (.inr (.inr h))
  ·unfold dG;split
   ·simp
   ·simp
 ·have h0:=h;unfold bM at h;simp only [Bool.and_eq_true,decide_eq_true_eq] at h;obtain ⟨⟨⟨h1,h2⟩,h3⟩,h4⟩:=h;refine ⟨fun e=>by subst e;simp at h1,?_,?_⟩
  ·rw [List.all_eq_true] at h4 ⊢;intro c hc;simp only [dB,Bool.or_eq_true];exact .inr (.inr (.inl (h4 c hc)))
  ·unfold dG;split
   ·simp
   ·split
    ·simp
    ·simp
theorem CW {s:Str} (h:nameB s=true∨bM s=true) (f n:Nat) (r:Str) (hr:headB dB r=false):dh (f+1) n (s++r)=(dh f (n+s.length) r).map ((dG s,s,n)::·):=by
 obtain ⟨h1,h2,h3⟩:=qo h;obtain ⟨ht,hd⟩:=gY h2 hr;cases s with
 | nil=>exact absurd rfl h1
 | cons c s=>
   have hc:dB c=true:=(by simp only [List.all_cons,Bool.and_eq_true] at h2;exact h2.1);obtain ⟨hb,hh⟩:=Ej hc;rw [List.cons_append] at ht hd ⊢;rw [dh,if_neg (by rw [hb];simp),if_neg hh,if_pos hc,ht,hd,if_neg h3]
theorem yc {c:UInt8} (h:c=40∨c=41∨c=44) (f n:Nat) (r:Str):dh (f+1) n (c::r)=(dh f (n+1) r).map ((4,[c],n)::·):=by
 rcases h with rfl | rfl | rfl<;>rfl
theorem xk {l:List Tm} {r:Str}:headB dB (gK l++r)=false:=by
 cases l with
 | nil=>rfl
 | cons t l=>simp [gK,headB];decide
theorem Io {k:Nat} (ih:∀ t:Tm,bH false k t=true→∀ (n:Nat) (r:Str) (f:Nat),headB dB r=false→dh (f+(tkT n t).length) n (aH t++r)=(dh f (n+(aH t).length) r).map (tkT n t++·)) :
  ∀ (l:List Tm),l.all (bH false k)=true→∀ (n:Nat) (r:Str) (f:Nat),dh (f+(tkR n l).length) n (gK l++r)=(dh f (n+(gK l).length) r).map (tkR n l++·)
 | [],_,n,r,f=>yc (.inr (.inl rfl)) f n r
 | t::ts,h,n,r,f=>by
   simp only [List.all_cons,Bool.and_eq_true] at h;have e1:gK (t::ts)++r=44::(aH t++(gK ts++r)):=(by simp [gK]);have e2:(gK (t::ts)).length=1+(aH t).length+(gK ts).length:=(by simp [gK];omega);have e3:f+(tkR n (t::ts)).length=(f+(tkR (n+1+(aH t).length) ts).length+(tkT (n+1) t).length)+1:=(by rw [tkR];simp;omega);rw [e1,e2,e3,yc (.inr (.inr rfl)),ih t h.1 _ _ _ xk,Io ih ts h.2,Option.map_map,Option.map_map,tkR,show n+1+(aH t).length+(gK ts).length=n+(1+(aH t).length+(gK ts).length) by omega];congr 1;funext x;simp
theorem ug:∀ (k:Nat) (t:Tm),bH false k t=true→∀ (n:Nat) (r:Str) (f:Nat),headB dB r=false→dh (f+(tkT n t).length) n (aH t++r)=(dh f (n+(aH t).length) r).map (tkT n t++·)
 | 0,.mk s l,h=>by simp [bH] at h
 | k+1,.mk s l,h=>fun n r f hr=>by
   rw [bH] at h;cases l with
   | nil=>
     have hs:nameB s=true∨bM s=true:=(by simpa using h);rw [fE,List.map_nil,parens,List.append_nil,tkT];exact CW hs f n r hr
   | cons t ts=>
     have h2:(t::ts).all (bH false k)=true∧nameB s=true:=by
      split at h
      ·simpa using h
      ·cases h
     obtain ⟨ha,hs⟩:=h2;simp only [List.all_cons,Bool.and_eq_true] at ha;have e1:aH (.mk s (t::ts))++r=s++(40::(aH t++(gK ts++r))):=(by rw [fE,List.map_cons,wK];simp);have e2:(aH (.mk s (t::ts))).length=s.length+1+(aH t).length+(gK ts).length:=(by rw [fE,List.map_cons,wK];simp;omega);have e3:f+(tkT n (.mk s (t::ts))).length=(f+(tkR (n+s.length+1+(aH t).length) ts).length+(tkT (n+s.length+1) t).length)+1+1:=by rw [tkT];simp;omega
     rw [e1,e2,e3,CW (.inl hs) _ _ _ (by rfl),yc (.inl rfl),ug k t ha.1 _ _ _ xk,Io (ug k) ts ha.2,Option.map_map,Option.map_map,Option.map_map,tkT,
      show n+s.length+1+(aH t).length+(gK ts).length=n+(s.length+1+(aH t).length+(gK ts).length) by omega]
     congr 1;funext x;simp
def cZ (s:Str):List Tk→Bool
 | []=>false
 | (k,t,_)::_=>(k==4||k==5)&&t==s
def dZ:List Tk→Bool
 | []=>false
 | (k,_,_)::_=>k==1||(k==2||k==3)
mutual
def iO:Nat→Nat→List Tk→Option (Tm×List Tk)
 | 0,_,_=>none
 | _+1,_,[]=>none
 | f+1,v,(k,s,n)::r=>
   if dZ ((k,s,n)::r)=false then none
   else if 4<v then none
   else if k≠1∨cZ [40] r=false then some (.mk s [],r)
   else match nI f v [] r.tail with
    | some (l,r')=>if cZ [41] r'=true then some (.mk s l,r'.tail) else none
    | none=>none
def nI:Nat→Nat→List Tm→List Tk→Option (List Tm×List Tk)
 | 0,_,_,_=>none
 | f+1,v,acc,r=>
   if acc.length=4∧dZ r=true then none
   else match iO f (v+1) r with
    | some (t,r')=>if cZ [44] r'=true then nI f v (acc++[t]) r'.tail else some (acc++[t],r')
    | none=>none
end
theorem PE {n:Nat} {s:Str} {l:List Tm} {r:List Tk} (h:dG s=1∨dG s=2):dZ (tkT n (.mk s l)++r)=true:=by
 cases l<;>(rw [tkT];rcases h with h | h<;>simp [dZ,h])
theorem Ko {s:Str} (h:nameB s=true):¬ (s=sIf∨s=iM∨s=iK):=by
 unfold nameB at h;simp only [Bool.and_eq_true,Bool.not_eq_true',beq_eq_false_iff_ne] at h;obtain ⟨⟨⟨_,h4⟩,h5⟩,h6⟩:=h;rintro (e | e | e)
 ·exact h4 e
 ·exact h5 e
 ·exact h6 e
theorem C9 {s:Str} (h:nameB s=true):dG s=1:=by
 unfold dG;rw [if_neg (Ko h),if_pos h]
theorem Qk {s:Str} (h:bM s=true):¬ (s=sIf∨s=iM∨s=iK):=by
 rintro (rfl | rfl | rfl)<;>revert h<;>decide
theorem TG {s:Str} (h:bM s=true):nameB s=false:=by
 cases s with
 | nil=>revert h;decide
 | cons c r=>
   unfold bM at h;simp only [Bool.and_eq_true,List.all_cons] at h;have hd:=I9.1 h.2.1;refine kZ (.inr (.inl ?_));show jA c=false;simp [jA,rng];omega
theorem Uc {s:Str} (h:bM s=true):dG s=2:=by
 unfold dG;rw [if_neg (Qk h),TG h,if_neg (by simp),if_pos h]
theorem Hr {k v:Nat} (ih:∀ t:Tm,bH false k t=true→∀ (n:Nat) (r:List Tk) (f:Nat),cZ [40] r=false→(tkT n t).length≤f→iO f (v+1) (tkT n t++r)=some (t,r)) :
  ∀ (l:List Tm) (acc:List Tm) (t:Tm),bH false k t=true→l.all (bH false k)=true→acc.length+l.length+1≤4→∀ (n m:Nat) (r:List Tk) (f:Nat),(tkT n t).length+(tkR m l).length<f →
    nI f v acc (tkT n t++(tkR m l++r))=some (acc++t::l,(4,[41],m+(gK l).length-1)::r)
 | l,acc,t,ht,hl,hc,n,m,r,0,hf=>by omega
 | [],acc,t,ht,hl,hc,n,m,r,f+1,hf=>by
   rw [nI,if_neg (by simp at hc;omega),tkR,ih t ht n _ f rfl (by omega)];have:m+(gK []).length-1=m:=(by simp [gK]);rw [this];rfl
 | u::us,acc,t,ht,hl,hc,n,m,r,f+1,hf=>by
   simp only [List.all_cons,Bool.and_eq_true] at hl;simp only [List.length_cons] at hc;rw [nI,if_neg (by omega),tkR];rw [tkR] at hf;simp only [List.length_cons,List.length_append] at hf;rw [List.cons_append,ih t ht n _ f rfl (by omega)];have e:nI f v (acc++[t]) (tkT (m+1) u++(tkR (m+1+(aH u).length) us++r))=_:=Hr ih us (acc++[t]) u hl.1 hl.2 (by simp;omega) (m+1) (m+1+(aH u).length) r f (by omega);rw [← List.append_assoc] at e;show (if cZ [44] ((4,[44],m)::_)=true then nI f v (acc++[t]) _ else _)=_;rw [if_pos (show cZ [44] ((4,[44],m)::(tkT (m+1) u++tkR (m+1+(aH u).length) us++r))=true from rfl),List.tail_cons,e];congr 2
   ·simp
   ·congr 3;simp [gK];omega
theorem tN:∀ (k v:Nat) (t:Tm),k+v=5→1≤v→bH false k t=true→∀ (n:Nat) (r:List Tk) (f:Nat),cZ [40] r=false→(tkT n t).length≤f→iO f v (tkT n t++r)=some (t,r)
 | 0,_,.mk s l,_,_,h=>by simp [bH] at h
 | k+1,v,.mk s l,hkv,hv,h=>fun n r f hr hf=>by
   rw [bH] at h;cases f with
   | zero=>
     have:1≤(tkT n (.mk s l)).length:=(by cases l<;>(rw [tkT];simp));omega
   | succ f=>
     cases l with
     | nil=>
       have hs:nameB s=true∨bM s=true:=(by simpa using h);have hk:dG s=1∨dG s=2:=hs.imp C9 Uc;have hb:=PE (n:=n) (l:=[]) (r:=r) hk;rw [tkT] at hb ⊢;rw [List.cons_append,List.nil_append] at hb ⊢;rw [iO,hb,if_neg (by simp),if_neg (by omega),if_pos (.inr hr)]
     | cons t ts=>
       have h2:(t::ts).length≤4∧(t::ts).all (bH false k)=true∧nameB s=true:=by
        split at h
        ·rename_i h4;exact ⟨h4,by simpa using h⟩
        ·cases h
       obtain ⟨h4,ha,hs⟩:=h2;simp only [List.all_cons,Bool.and_eq_true] at ha;have hk:=C9 hs;have hb:=PE (n:=n) (l:=t::ts) (r:=r) (.inl hk);rw [tkT] at hb hf ⊢;simp only [List.length_cons,List.length_append] at hf h4;simp only [List.cons_append] at hb ⊢;rw [iO,hb,if_neg (by simp),if_neg (by omega),if_neg (by simp [hk,cZ])];have e:=Hr (k:=k) (v:=v) (fun u hu n r f h1 h2=>tN k (v+1) u (by omega) (by omega) hu n r f h1 h2) ts [] t ha.1 ha.2 (by simp;omega) (n+s.length+1) (n+s.length+1+(aH t).length) r f (by omega);rw [← List.append_assoc] at e;rw [List.tail_cons,e];rfl
def tkJ:Nat→List Tm→List Tk
 | n,[]=>[(0,[],n)]
 | n,[t]=>tkT n t++[(0,[],n+(aH t).length)]
 | n,t::u::ts=>tkT n t++(4,[44],n+(aH t).length)::tkJ (n+(aH t).length+2) (u::ts)
theorem Ip {k:Nat}:∀ (l:List Tm),l.all (bH false k)=true→∀ (n f:Nat),dh (f+2*(tkJ n l).length) n (Lib.join (l.map aH) [44,32])=some (tkJ n l)
 | [],_,n,f=>rfl
 | [t],h,n,f=>by
   simp only [List.all_cons,Bool.and_eq_true] at h;have e:=ug k t h.1 n [] (f+(tkT n t).length+2) rfl;rw [List.append_nil] at e;rw [List.map_cons,List.map_nil,Lib.join_one,tkJ];have e2:f+2*(tkT n t++[(0,[],n+(aH t).length)]).length=f+(tkT n t).length+2+(tkT n t).length:=(by simp;omega);rw [e2,e];rfl
 | t::u::ts,h,n,f=>by
   simp only [List.all_cons,Bool.and_eq_true] at h;have ht:(u::ts).all (bH false k)=true:=(by simp only [List.all_cons,Bool.and_eq_true];exact h.2);have e1:Lib.join ((t::u::ts).map aH) [44,32]=aH t++(44::32::Lib.join ((u::ts).map aH) [44,32]):=by
    simp only [List.map_cons,Lib.join_cons,Lib.joinTail,List.flatten_cons];simp
   have e2:f+2*(tkJ n (t::u::ts)).length=(f+(tkT n t).length+2*(tkJ (n+(aH t).length+2) (u::ts)).length)+1+1+(tkT n t).length:=(by rw [tkJ];simp;omega);have ih:=Ip (u::ts) ht (n+(aH t).length+2) (f+(tkT n t).length);rw [e1,e2,ug k t h.1 n _ _ rfl,yc (.inr (.inr rfl)),dh,if_pos (show eP 32=true from rfl),ih,tkJ];rfl
def nJ:Nat→List Tm→List Tk→Option (List Tm×List Tk)
 | 0,_,_=>none
 | f+1,acc,r=>match iO (f+1) 1 r with
   | some (t,r')=>if cZ [44] r'=true then nJ f (acc++[t]) r'.tail else some (acc++[t],r')
   | none=>none
theorem Hw:∀ (l:List Tm) (t:Tm),(t::l).all (bH false 4)=true→∀ (acc:List Tm) (n f:Nat),(tkJ n (t::l)).length≤f→∃ m,nJ f acc (tkJ n (t::l))=some (acc++t::l,[(0,[],m)])
 | l,t,h,acc,n,0,hf=>by
   cases l<;>(rw [tkJ] at hf;simp at hf)
 | [],t,h,acc,n,f+1,hf=>by
   simp only [List.all_cons,Bool.and_eq_true] at h;rw [tkJ] at hf ⊢;simp only [List.length_append,List.length_cons,List.length_nil] at hf;rw [nJ,tN 4 1 t rfl (by decide) h.1 n _ (f+1) rfl (by omega)];exact ⟨_,rfl⟩
 | u::ts,t,h,acc,n,f+1,hf=>by
   rw [List.all_cons,Bool.and_eq_true] at h;rw [tkJ] at hf ⊢;simp only [List.length_append,List.length_cons] at hf;rw [nJ,tN 4 1 t rfl (by decide) h.1 n _ (f+1) rfl (by omega)];obtain ⟨m,e⟩:=Hw ts u h.2 (acc++[t]) (n+(aH t).length+2) f (by omega);refine ⟨m,?_⟩;show (if cZ [44] ((4,[44],n+(aH t).length)::tkJ (n+(aH t).length+2) (u::ts))=true then nJ f (acc++[t]) _ else _)=_;rw [if_pos (show cZ [44] ((4,[44],n+(aH t).length)::tkJ (n+(aH t).length+2) (u::ts))=true from rfl),List.tail_cons,e];simp
theorem mX {p:UInt8→Bool}:∀ s:Str,(s.dropWhile p).length≤s.length
 | []=>Nat.le_refl _
 | c::s=>by
   rw [List.dropWhile_cons];split
   ·have:=mX (p:=p) s;simp;omega
   ·exact Nat.le_refl _
theorem uh:∀ (f g n:Nat) (s:Str),s.length<f→s.length<g→dh f n s=dh g n s
 | 0,_,_,_,h,_=>by omega
 | _+1,0,_,_,_,h=>by omega
 | f+1,g+1,n,[],_,_=>rfl
 | f+1,g+1,n,c::r,hf,hg=>by
   simp only [List.length_cons] at hf hg;have e1:=uh f g (n+1) r (by omega) (by omega);have e2:=uh f g (n+1+(r.takeWhile (· != 10)).length) (r.dropWhile (· != 10)) (by have:=mX (p:=(· != 10)) r;omega) (by have:=mX (p:=(· != 10)) r;omega);by_cases hr:dB c=true
   ·have hd:((c::r).dropWhile dB).length≤r.length:=by
     rw [List.dropWhile_cons,if_pos hr];exact mX r
    have e3:=uh f g (n+((c::r).takeWhile dB).length) ((c::r).dropWhile dB) (by omega) (by omega);rw [dh,dh,e1,e2,e3]
   ·rw [dh,dh,e1,e2,if_neg hr,if_neg hr]
def jB (s:Str):Option (List Tk):=dh (s.length+1) 0 s
theorem CX {k:Nat} (l:List Tm) (h:l.all (bH false k)=true):jB (Lib.join (l.map aH) [44,32])=some (tkJ 0 l):=by
 have e:=Ip l h 0 ((Lib.join (l.map aH) [44,32]).length+1);rw [← e];exact uh _ _ _ _ (by omega) (by omega)
def gQ (s:Str):Option Tm:=match jB s with
 | some l=>match iO l.length 1 l with
   | some (t,(0,_,_)::_)=>some t
   | _=>none
 | none=>none
def iF (s:Str):Option (List Tm):=match jB s with
 | some ((0,_,_)::_)=>some []
 | some l=>match nJ l.length [] l with
   | some (ts,(0,_,_)::_)=>some ts
   | _=>none
 | none=>none
theorem yS {t:Tm} (h:bH false 4 t=true):gQ (aH t)=some t:=by
 have e:=CX (k:=4) [t] (by simp [h]);rw [List.map_cons,List.map_nil,Lib.join_one] at e;have p:=tN 4 1 t rfl (by decide) h 0 [(0,[],0+(aH t).length)] (tkJ 0 [t]).length rfl (by rw [tkJ];simp);rw [gQ,e];show (match iO (tkJ 0 [t]).length 1 (tkJ 0 [t]) with | some (t,(0,_,_)::_)=>some t | _=>none)=_;rw [show tkJ 0 [t]=tkT 0 t++[(0,[],0+(aH t).length)] from rfl] at p ⊢;rw [p];rfl
theorem JF {l:List Tm} (h:l.all (bH false 4)=true):iF (Lib.join (l.map aH) [44,32])=some l:=by
 cases l with
 | nil=>rfl
 | cons t l=>
   obtain ⟨m,e⟩:=Hw l t h [] 0 (tkJ 0 (t::l)).length (Nat.le_refl _);rw [iF,CX _ h];have hh:∃ k s n r,tkJ 0 (t::l)=(k,s,n)::r∧k≠0:=by
    obtain ⟨s,aaz⟩:=t;rw [List.all_cons,Bool.and_eq_true,bH] at h;have hs:nameB s=true∨bM s=true:=by
     have h:=h.1;split at h
     ·split at h
      ·simpa using h
      ·simp at h;exact .inl h.2
     ·cases h
    have hk:=(qo hs).2.2;cases l<;>cases aaz<;>(rw [tkJ,tkT];exact ⟨_,_,_,_,rfl,hk⟩)
   obtain ⟨k,s,n,r,e2,hk⟩:=hh;rw [e2] at e ⊢;cases k with
   | zero=>exact absurd rfl hk
   | succ k=>
     show (match nJ ((k+1,s,n)::r).length [] ((k+1,s,n)::r) with | some (ts,(0,_,_)::_)=>some ts | _=>none)=_;rw [e];rfl
def oz:Str→Str×Option Str
 | []=>([],none)
 | [c]=>([c],none)
 | c::d::r=>if c=44∧d=32 then ([],some r) else (c::(oz (d::r)).1,(oz (d::r)).2)
theorem DW:∀ {a:Str},32∉a→oz a=(a,none)
 | [],_=>rfl
 | [c],_=>rfl
 | c::d::a,h=>by
   rw [oz,if_neg (fun e=>h (by rw [e.2];simp)),DW (a:=d::a) (fun e=>h (List.mem_cons_of_mem _ e))]
theorem DU:∀ {a:Str} {r:Str},32∉a→oz (a++44::32::r)=(a,some r)
 | [],r,_=>by rw [List.nil_append,oz,if_pos ⟨rfl,rfl⟩]
 | [c],r,h=>by
   rw [List.cons_append,List.nil_append,oz,if_neg (fun e=>absurd e.2 (by decide)),oz,if_pos ⟨rfl,rfl⟩]
 | c::d::a,r,h=>by
   have ih:=DU (a:=d::a) (r:=r) (fun e=>h (List.mem_cons_of_mem _ e));rw [List.cons_append,List.cons_append,oz,if_neg (fun e=>h (by rw [e.2];simp))];rw [List.cons_append] at ih;rw [ih]
def Jq (c:UInt8):Bool:=dB c||(c==40||(c==41||c==44))
theorem Xg {c:UInt8} (h:Jq c=true):c≠32∧c≠58∧c≠10:=by
 unfold Jq at h;simp only [Bool.or_eq_true,beq_iff_eq] at h;refine ⟨?_,?_,?_⟩<;>(rintro rfl;revert h;decide)
theorem Rl {l:List Str} (h:∀ x∈l,x.all Jq=true):(Lib.join l [44]).all Jq=true:=by
 cases l with
 | nil=>rfl
 | cons x r=>
   rw [Lib.join_cons,List.all_append,h x (by simp),Bool.true_and,Lib.joinTail,List.all_eq_true];intro c hc;obtain ⟨y,hy,hcy⟩:=List.mem_flatten.1 hc;obtain ⟨z,hz,rfl⟩:=List.mem_map.1 hy;rcases List.mem_append.1 hcy with h1 | h1
   ·have:c=44:=(by simpa using h1);subst this;decide
   ·exact List.all_eq_true.1 (h z (List.mem_cons_of_mem _ hz)) c h1
theorem GK:∀ (k:Nat) (t:Tm),bH false k t=true→(aH t).all Jq=true
 | 0,.mk s l,h=>by simp [bH] at h
 | k+1,.mk s l,h=>by
   rw [bH] at h;have hname:∀ {s:Str},nameB s=true∨bM s=true→s.all Jq=true:=fun h=>by
    have:=(qo h).2.1;rw [List.all_eq_true] at this ⊢;intro c hc;simp [Jq,this c hc]
   cases l with
   | nil=>
     rw [fE,List.map_nil,parens,List.append_nil];exact hname (by simpa using h)
   | cons t ts=>
     have h2:(t::ts).all (bH false k)=true∧nameB s=true:=by
      split at h
      ·simpa using h
      ·cases h
     have hj:=Rl (l:=(t::ts).map aH) (fun x hx=>by
      obtain ⟨u,hu,rfl⟩:=List.mem_map.1 hx
      exact GK k u (List.all_eq_true.1 h2.1 u hu))
     rw [fE,List.all_append,hname (.inl h2.2),Bool.true_and];rw [List.map_cons] at hj ⊢;rw [parens,List.all_append,List.all_append,hj];rfl
theorem rZ {t:Tm} (h:bH false 4 t=true) {c:UInt8} (hc:c=32∨c=58∨c=10):c∉aH t:=fun hm=>by
 have:=Xg (List.all_eq_true.1 (GK 4 t h) c hm);rcases hc with rfl | rfl | rfl
 ·exact this.1 rfl
 ·exact this.2.1 rfl
 ·exact this.2.2 rfl
def sS (s:Str):Option Tm:=match gQ s with
 | some t=>if bH false 4 t=true∧aH t=s then some t else none
 | none=>none
theorem vG {s:Str} {t:Tm} (h:sS s=some t):bH false 4 t=true∧aH t=s:=by
 unfold sS at h;split at h
 ·split at h
  ·rename_i h2;cases h;exact h2
  ·cases h
 ·cases h
theorem vF {t:Tm} (h:bH false 4 t=true):sS (aH t)=some t:=by
 rw [sS,yS h];exact if_pos ⟨h,rfl⟩
def xJ (p:Option Tm) (t:Tm):Bool:=match p with | some q=>decide (0≤jD q t) | none=>false
def sW:Nat→Option Tm→Str→Option (List Tm)
 | 0,_,_=>none
 | f+1,p,s=>match sS (oz s).1 with
   | none=>none
   | some t=>if xJ p t=true then none else match (oz s).2 with
     | none=>some [t]
     | some r=>if r=[] then none else (sW f (some t) r).map (t::·)
def qJ:Option Tm→List Tm→Bool
 | _,[]=>true
 | p,t::l=>!xJ p t&&qJ (some t) l
theorem vH:∀ {f:Nat} {p:Option Tm} {s:Str} {l:List Tm},sW f p s=some l→l≠[]∧l.all (bH false 4)=true∧qJ p l=true
 | 0,_,_,_,h=>by cases h
 | f+1,p,s,l,h=>by
   rw [sW] at h;split at h
   ·cases h
   ·rename_i t ht;have h1:=(vG ht).1;split at h
    ·cases h
    ·rename_i hp;have hp:xJ p t=false:=(by simpa using hp);split at h
     ·cases h;exact ⟨by simp,by simp [h1],by rw [qJ,hp];rfl⟩
     ·split at h
      ·cases h
      ·obtain ⟨l',h2,rfl⟩:=Option.map_eq_some_iff.1 h;obtain ⟨_,h3,h4⟩:=vH h2;exact ⟨by simp,by simp [h1,h3],by rw [qJ,hp,h4];rfl⟩
theorem Iy (t u:Tm) (ts:List Tm):Lib.join ((t::u::ts).map aH) [44,32]=aH t++(44::32::Lib.join ((u::ts).map aH) [44,32]):=by
 simp only [List.map_cons,Lib.join_cons,Lib.joinTail,List.flatten_cons];simp
theorem Lp {t:Tm} (h:bH false 4 t=true):aH t≠[]:=by
 obtain ⟨s,l⟩:=t;rw [bH] at h;have hs:nameB s=true∨bM s=true:=by
  split at h
  ·split at h
   ·simpa using h
   ·simp at h;exact .inl h.2
  ·cases h
 rw [fE];intro e;exact (qo hs).1 (List.append_eq_nil_iff.1 e).1
theorem BM:∀ (l:List Tm) (t:Tm) (p:Option Tm) (f:Nat),(t::l).all (bH false 4)=true→qJ p (t::l)=true→l.length<f→sW f p (Lib.join ((t::l).map aH) [44,32])=some (t::l)
 | l,t,p,0,_,_,hf=>by omega
 | [],t,p,f+1,h,ha,_=>by
   simp only [List.all_cons,Bool.and_eq_true] at h;rw [qJ,Bool.and_eq_true,Bool.not_eq_true'] at ha;rw [List.map_cons,List.map_nil,Lib.join_one,sW,DW (rZ h.1 (.inl rfl)),vF h.1];simp only [];rw [if_neg (by rw [ha.1];simp)]
 | u::ts,t,p,f+1,h,ha,hf=>by
   rw [List.all_cons,Bool.and_eq_true] at h;rw [qJ,Bool.and_eq_true,Bool.not_eq_true'] at ha;have hu:=h.2;rw [List.all_cons,Bool.and_eq_true] at hu;have hne:Lib.join ((u::ts).map aH) [44,32]≠[]:=fun e=>by
    rw [List.map_cons,Lib.join_cons] at e;exact Lp hu.1 (List.append_eq_nil_iff.1 e).1
   rw [Iy,sW,DU (rZ h.1 (.inl rfl)),vF h.1];simp only [];rw [if_neg (by rw [ha.1];simp),if_neg hne,BM ts u (some t) f h.2 ha.2 (by simp at hf;omega)];rfl
theorem DX:∀ (s:Str),s=(oz s).1++(match (oz s).2 with | none=>[] | some r=>44::32::r)
 | []=>rfl
 | [c]=>rfl
 | c::d::r=>by
   rw [oz];split
   ·rename_i h;obtain ⟨rfl,rfl⟩:=h;rfl
   ·have:=DX (d::r);rw [List.cons_append,← this]
theorem BN:∀ {f:Nat} {p:Option Tm} {s:Str} {l:List Tm},sW f p s=some l→s=Lib.join (l.map aH) [44,32]
 | 0,_,_,_,h=>by cases h
 | f+1,p,s,l,h=>by
   have hb:=DX s;rw [sW] at h;split at h
   ·cases h
   ·rename_i t ht;have h1:=(vG ht).2;split at h
    ·cases h
    ·split at h
     ·rename_i h2;cases h;rw [h2,List.append_nil,← h1] at hb;rw [hb,List.map_cons,List.map_nil,Lib.join_one]
     ·rename_i r h2;split at h
      ·cases h
      ·obtain ⟨l',h3,rfl⟩:=Option.map_eq_some_iff.1 h;have h4:=BN h3;have hne:=(vH h3).1;rw [h2,← h1,h4] at hb;cases l' with
       | nil=>exact absurd rfl hne
       | cons u ts=>rw [hb,Iy]
def mY (s:Sn):Bool:=bH false 4 s.1&&(s.2.all (bH false 4)&&qJ none s.2)
def jG (s:Str):Option Sn:=match s.dropWhile (· != 58) with
 | 58::32::r=>match sS (s.takeWhile (· != 58)) with
   | none=>none
   | some t=>if r=[] then some (t,[]) else (sW (r.length+1) none r).map (t,·)
 | _=>none
theorem P8 {s:Str} {x:Sn} (h:jG s=some x):mY x=true∧s++[10]=textS x:=by
 have hs:s=s.takeWhile (· != 58)++s.dropWhile (· != 58):=(List.takeWhile_append_dropWhile).symm;unfold jG at h;split at h
 ·rename_i r hd;rw [hd] at hs;split at h
  ·cases h
  ·rename_i t ht;obtain ⟨h1,h2⟩:=vG ht;rw [← h2] at hs;split at h
   ·rename_i hr;cases h;subst hr;refine ⟨by simp [mY,h1,qJ],?_⟩;rw [hs];simp [textS,Lib.join_nil]
   ·obtain ⟨l,h3,rfl⟩:=Option.map_eq_some_iff.1 h;obtain ⟨_,h4,h5⟩:=vH h3;refine ⟨by simp only [mY,h1,h4,h5];rfl,?_⟩;rw [hs,BN h3];simp [textS]
 ·cases h
def lineS (x:Sn):Str:=aH x.1++58::32::Lib.join (x.2.map aH) [44,32]
theorem qZ (x:Sn):textS x=lineS x++[10]:=by simp [textS,lineS]
theorem P7 {x:Sn} (h:mY x=true):jG (lineS x)=some x:=by
 obtain ⟨t,l⟩:=x;simp only [mY,Bool.and_eq_true] at h;obtain ⟨h1,h2,h3⟩:=h;have hall:(aH t).all (· != 58)=true:=by
  rw [List.all_eq_true];intro c hc;have:=rZ h1 (c:=58) (.inr (.inl rfl));simp only [bne_iff_ne];rintro rfl;exact this hc
 obtain ⟨e1,e2⟩:=gY (b:=58::32::Lib.join (l.map aH) [44,32]) hall rfl;rw [lineS,jG,e1,e2];simp only [];rw [vF h1];cases l with
 | nil=>rfl
 | cons u ts=>
   have hu:=h2;rw [List.all_cons,Bool.and_eq_true] at hu;have hne:Lib.join ((u::ts).map aH) [44,32]≠[]:=fun e=>by
    rw [List.map_cons,Lib.join_cons] at e;exact Lp hu.1 (List.append_eq_nil_iff.1 e).1
   have hlen:ts.length<(Lib.join ((u::ts).map aH) [44,32]).length+1:=by
    suffices ∀ (l:List Tm),l.length≤(Lib.joinTail [44,32] (l.map aH)).length by
     have:=this ts;rw [List.map_cons,Lib.join_cons,List.length_append];omega
    intro l
    induction l with
    | nil=>simp
    | cons a l ih=>
      simp only [List.map_cons,Lib.joinTail,List.flatten_cons,List.length_append,List.length_cons,List.length_nil] at ih ⊢;omega
   simp only [];rw [if_neg hne,BM ts u none _ h2 h3 hlen];rfl
def jV:Nat→Str→Option (List Sn)
 | 0,_=>none
 | f+1,s=>if s=[] then some [] else match s.dropWhile (· != 10) with
   | []=>none
   | _::r=>match jG (s.takeWhile (· != 10)) with
     | none=>none
     | some x=>(jV f r).map (x::·)
theorem DR {p:UInt8→Bool}:∀ {s:Str} {c:UInt8} {r:Str},s.dropWhile p=c::r→p c=false
 | [],_,_,h=>by cases h
 | d::s,c,r,h=>by
   rw [List.dropWhile_cons] at h;split at h
   ·exact DR h
   ·rename_i hp;cases h
    simpa using hp
theorem BL:∀ {f:Nat} {s:Str} {v:List Sn},jV f s=some v→v.all mY=true∧s=bI v
 | 0,_,_,h=>by cases h
 | f+1,s,v,h=>by
   have hs:s=s.takeWhile (· != 10)++s.dropWhile (· != 10):=(List.takeWhile_append_dropWhile).symm;rw [jV] at h;split at h
   ·rename_i h0;cases h;exact ⟨rfl,h0⟩
   ·split at h
    ·cases h
    ·rename_i c r hd;have hc:c=10:=(by simpa using DR hd);subst hc;split at h
     ·cases h
     ·rename_i x hx;obtain ⟨l,h3,rfl⟩:=Option.map_eq_some_iff.1 h;obtain ⟨h4,h5⟩:=BL h3;obtain ⟨h6,h7⟩:=P8 hx;refine ⟨by simp only [List.all_cons,h6,h4];rfl,?_⟩;rw [hd,h5] at hs;rw [hs];have:bI (x::l)=textS x++bI l:=(by simp [bI]);rw [this,← h7];simp
theorem Ny {x:Sn} (h:mY x=true):(lineS x).all (· != 10)=true:=by
 obtain ⟨t,l⟩:=x;simp only [mY,Bool.and_eq_true] at h;obtain ⟨h1,h2,_⟩:=h;have hT:∀ {t:Tm},bH false 4 t=true→(aH t).all (· != 10)=true:=fun h=>by
  rw [List.all_eq_true];intro c hc;have:=rZ h (c:=10) (.inr (.inr rfl));simp only [bne_iff_ne];rintro rfl;exact this hc
 have hJ:∀ (l:List Tm),l.all (bH false 4)=true→(Lib.joinTail [44,32] (l.map aH)).all (· != 10)=true:=fun l=>by
  induction l with
  | nil=>intro _;rfl
  | cons a l ih=>
    intro h;rw [List.all_cons,Bool.and_eq_true] at h;have:=ih h.2;simp only [Lib.joinTail,List.map_cons,List.flatten_cons,List.all_append,hT h.1] at this ⊢;rw [this];rfl
 rw [lineS,List.all_append,hT h1,Bool.true_and];cases l with
 | nil=>rfl
 | cons u ts=>
   rw [List.all_cons,Bool.and_eq_true] at h2;rw [List.map_cons,Lib.join_cons,List.all_cons,List.all_cons,List.all_append,hT h2.1,hJ ts h2.2];rfl
theorem BK:∀ (v:List Sn) (f:Nat),v.all mY=true→v.length<f→jV f (bI v)=some v
 | _,0,_,hf=>by omega
 | [],f+1,_,_=>rfl
 | x::v,f+1,h,hf=>by
   rw [List.all_cons,Bool.and_eq_true] at h;have e:bI (x::v)=lineS x++10::bI v:=by
    have:bI (x::v)=textS x++bI v:=(by simp [bI]);rw [this,qZ];simp
   obtain ⟨e1,e2⟩:=gY (b:=10::bI v) (Ny h.1) rfl;rw [e,jV,if_neg (by simp),e1,e2];simp only [];rw [P7 h.1];simp only [];rw [BK v f h.2 (by simp at hf;omega)];rfl
def wu:Str→Option (Str×Str)
 | []=>none
 | [_]=>none
 | c::d::r=>if c=58∧d=32 then some ([],r) else (wu (d::r)).map fun x=>(c::x.1,x.2)
theorem DT:∀ {a r:Str},58∉a→wu (a++58::32::r)=some (a,r)
 | [],r,_=>by rw [List.nil_append,wu,if_pos ⟨rfl,rfl⟩]
 | [c],r,h=>by
   rw [List.cons_append,List.nil_append,wu,if_neg (fun e=>h (by rw [e.1];simp)),wu,if_pos ⟨rfl,rfl⟩];rfl
 | c::d::a,r,h=>by
   have ih:=DT (a:=d::a) (r:=r) (fun e=>h (List.mem_cons_of_mem _ e));rw [List.cons_append,List.cons_append,wu,if_neg (fun e=>h (by rw [e.1];simp))];rw [List.cons_append] at ih;rw [ih];rfl
def mF (s:Str):Option Sn:=match wu s with
 | none=>none
 | some (a,b)=>match gQ a,iF b with
   | some t,some l=>if mY (t,l)=true then some (t,l) else none
   | _,_=>none
theorem Qe {s:Str} {x:Sn} (h:mF s=some x):mY x=true:=by
 unfold mF at h;split at h
 ·cases h
 ·split at h
  ·split at h
   ·rename_i hc;cases h;exact hc
   ·cases h
  ·cases h
theorem Qd {x:Sn} (h:mY x=true):mF (lineS x)=some x:=by
 obtain ⟨t,l⟩:=x;have h0:=h;simp only [mY,Bool.and_eq_true] at h0;obtain ⟨h1,h2,_⟩:=h0;rw [lineS,mF,DT (rZ h1 (.inr (.inl rfl)))];simp only [];rw [yS h1,JF h2];exact if_pos h
def qG:Nat→Str→Option (List Sn)
 | 0,_=>none
 | f+1,s=>if s=[] then some [] else match mF (s.takeWhile (· != 10)) with
   | none=>none
   | some x=>(qG f (s.dropWhile (· != 10)).tail).map (x::·)
def yX (s:Str):Option (List Sn):=match qG (s.length+1) s with
 | some v=>if bI v=s then some v else none
 | none=>none
theorem vI:∀ {f:Nat} {s:Str} {v:List Sn},qG f s=some v→v.all mY=true
 | 0,_,_,h=>by cases h
 | f+1,s,v,h=>by
   rw [qG] at h;split at h
   ·cases h;rfl
   ·split at h
    ·cases h
    ·rename_i x hx;obtain ⟨l,h3,rfl⟩:=Option.map_eq_some_iff.1 h;simp only [List.all_cons,Qe hx,vI h3];rfl
theorem BX:∀ (v:List Sn) (f:Nat),v.all mY=true→v.length<f→qG f (bI v)=some v
 | _,0,_,hf=>by omega
 | [],f+1,_,_=>rfl
 | x::v,f+1,h,hf=>by
   rw [List.all_cons,Bool.and_eq_true] at h;have e:bI (x::v)=lineS x++10::bI v:=by
    have:bI (x::v)=textS x++bI v:=(by simp [bI]);rw [this,qZ];simp
   obtain ⟨e1,e2⟩:=gY (b:=10::bI v) (Ny h.1) rfl;rw [e,qG,if_neg (by simp),e1,e2,Qd h.1];simp only [];rw [List.tail_cons,BX v f h.2 (by simp at hf;omega)];rfl
theorem yB:∀ v:List Sn,v.length≤(bI v).length
 | []=>by simp
 | x::v=>by
   have:=yB v;have e:bI (x::v)=textS x++bI v:=(by simp [bI]);rw [e,List.length_append,qZ,List.length_append];simp;omega
theorem Xt (s:Str):yX s=jV (s.length+1) s:=by
 cases hr:jV (s.length+1) s with
 | some v=>
   obtain ⟨h1,h2⟩:=BL hr;have hl:=yB v;rw [yX,show qG (s.length+1) s=some v by rw [h2];exact BX v _ h1 (by omega)];exact if_pos h2.symm
 | none=>
   unfold yX;split
   ·rename_i v hv;split
    ·rename_i ht;have h1:=vI hv;have hl:=yB v;have:=BK v (s.length+1) h1 (by rw [← ht];omega);rw [ht,hr] at this;cases this
    ·rfl
   ·rfl
theorem mP {s:Str} {r:List Tk} (h:cZ s r=true):r.tail.length+1=r.length:=by
 cases r with
 | nil=>cases h
 | cons a r=>rfl
theorem xY:∀ (f:Nat),(∀ v r t r',iO f v r=some (t,r')→r'.length<r.length)∧(∀ v acc r l r',nI f v acc r=some (l,r')→r'.length<r.length)
 | 0=>⟨fun _ _ _ _ h=>by simp [iO] at h,fun _ _ _ _ _ h=>by simp [nI] at h⟩
 | f+1=>by
   obtain ⟨iT,iL⟩:=xY f;refine ⟨fun v r t r' h=>?_,fun v acc r l r' h=>?_⟩
   ·cases r with
    | nil=>simp [iO] at h
    | cons a r=>
      obtain ⟨k,s,n⟩:=a;rw [iO] at h;split at h
      ·cases h
      ·split at h
       ·cases h
       ·split at h
        ·cases h;simp
        ·rename_i h1 _ _;split at h
         ·rename_i l r2 hl;split at h
          ·rename_i h3;cases h;have:=iL _ _ _ _ _ hl;have h4:=mP h3;simp only [List.length_tail] at *;simp only [List.length_cons];omega
          ·cases h
         ·cases h
   ·rw [nI] at h;split at h
    ·cases h
    ·split at h
     ·rename_i t r2 ht;have h1:=iT _ _ _ _ ht;split at h
      ·rename_i h3;have h4:=mP h3;have:=iL _ _ _ _ _ h;omega
      ·cases h;exact h1
     ·cases h
theorem tV:∀ (f g:Nat),(∀ v r,r.length≤f→r.length≤g→iO f v r=iO g v r)∧(∀ v acc r,r.length+1≤f→r.length+1≤g→nI f v acc r=nI g v acc r)
 | 0,g=>⟨fun v r h _=>by
   have:r=[]:=List.length_eq_zero_iff.1 (by omega);subst this
   cases g<;>simp [iO],fun v acc r h _=>by omega⟩
 | f+1,0=>⟨fun v r _ h=>by
    have:r=[]:=List.length_eq_zero_iff.1 (by omega);subst this
    simp [iO],fun v acc r _ h=>by omega⟩
 | f+1,g+1=>by
   obtain ⟨iT,iL⟩:=tV f g;refine ⟨fun v r hf hg=>?_,fun v acc r hf hg=>?_⟩
   ·cases r with
    | nil=>simp [iO]
    | cons a r=>
      obtain ⟨k,s,n⟩:=a;simp only [List.length_cons] at hf hg;by_cases h:cZ [40] r=false
      ·rw [iO,iO];split
       ·rfl
       ·split
        ·rfl
        ·rw [if_pos (.inr h),if_pos (.inr h)]
      ·have h4:=mP (by simpa using h:cZ [40] r=true);rw [iO,iO,iL v [] r.tail (by omega) (by omega)]
   ·rw [nI,nI,iT (v+1) r (by omega) (by omega)];split
    ·rfl
    ·split
     ·rename_i t r2 ht;have h1:=(xY g).1 _ _ _ _ ht;split
      ·rename_i h3;have h4:=mP h3;rw [iL v _ r2.tail (by omega) (by omega)]
      ·rfl
     ·rfl
theorem Ci:∀ (f g:Nat) (acc:List Tm) (r:List Tk),r.length≤f→r.length≤g→nJ f acc r=nJ g acc r
 | 0,g,acc,r,h,_=>by
   have:r=[]:=List.length_eq_zero_iff.1 (by omega);subst this;cases g<;>simp [nJ,iO]
 | f+1,0,acc,r,_,h=>by
   have:r=[]:=List.length_eq_zero_iff.1 (by omega);subst this;simp [nJ,iO]
 | f+1,g+1,acc,r,hf,hg=>by
   rw [nJ,nJ,(tV (f+1) (g+1)).1 1 r hf hg];split
   ·rename_i t r2 ht;have h1:=(xY (g+1)).1 _ _ _ _ ht;split
    ·rename_i h3;have h4:=mP h3;exact Ci f g _ _ (by omega) (by omega)
    ·rfl
   ·rfl
def bQ (p:UInt8→Bool) (s:Str) (i:Nat):Nat:=i+((s.drop i).takeWhile p).length
theorem jM {p:UInt8→Bool} {s:Str} {i:Nat} (h:i<s.length) (hp:p s[i]=true):bQ p s i=bQ p s (i+1):=by
 unfold bQ;rw [List.drop_eq_getElem_cons h,List.takeWhile_cons,if_pos hp,List.length_cons];omega
theorem uY {p:UInt8→Bool} {s:Str} {i:Nat} (h:i<s.length) (hp:p s[i]=false):bQ p s i=i:=by
 unfold bQ;rw [List.drop_eq_getElem_cons h,List.takeWhile_cons,if_neg (by simp [hp])];rfl
theorem yJ {p:UInt8→Bool} {s:Str} {i:Nat} (h:s.length≤i):bQ p s i=i:=by
 unfold bQ;rw [List.drop_eq_nil_of_le h];rfl
theorem xQ {p:UInt8→Bool} {s:Str} {i:Nat} (h:i≤s.length):i≤bQ p s i∧bQ p s i≤s.length:=by
 unfold bQ;have:=(List.takeWhile_sublist (l:=s.drop i) p).length_le;rw [List.length_drop] at this;omega
theorem BF {p:UInt8→Bool} {s:Str} {i:Nat}:s.drop (bQ p s i)=(s.drop i).dropWhile p:=by
 unfold bQ;rw [← List.drop_drop];have h:=List.takeWhile_append_dropWhile (p:=p) (l:=s.drop i);have h2:=congrArg (List.drop ((s.drop i).takeWhile p).length) h;rw [List.drop_left] at h2;exact h2.symm
theorem BD {p:UInt8→Bool} {s:Str} {i:Nat}:(s.drop i).take (bQ p s i-i)=(s.drop i).takeWhile p:=by
 unfold bQ;rw [Nat.add_sub_cancel_left];have h:=List.takeWhile_append_dropWhile (p:=p) (l:=s.drop i);have h2:=congrArg (List.take ((s.drop i).takeWhile p).length) h;rw [List.take_left] at h2;exact h2.symm
def eU (s:Str) (i:Nat) (out:List Tk):Prop:=i≤s.length∧out.length≤i∧∃ f,s.length-i<f∧jB s=(dh f i (s.drop i)).map (out++·)
theorem eU.start (s:Str):eU s 0 []:=⟨Nat.zero_le _,Nat.le_refl _,s.length+1,by omega,by rw [jB,List.drop_zero];cases dh (s.length+1) 0 s<;>simp⟩
theorem eU.fin {s:Str} {i:Nat} {out:List Tk} (h:eU s i out) (hi:¬ i<s.length):jB s=some (out++[(0,[],s.length)]):=by
 obtain ⟨h1,_,f,h2,h3⟩:=h;obtain rfl:i=s.length:=by omega
 obtain ⟨f,rfl⟩:∃ g,f=g+1:=⟨f-1,by omega⟩
 rw [h3,List.drop_length,dh];rfl
section
variable {s:Str} {i:Nat} {out:List Tk} (h:eU s i out) (hi:i<s.length)
include h hi
theorem eU.unf:∃ f,s.length-(i+1)<f∧jB s=(dh (f+1) i (s[i]::s.drop (i+1))).map (out++·):=by
 obtain ⟨h1,_,f,h2,h3⟩:=h;refine ⟨f-1,by omega,?_⟩;rw [h3,List.drop_eq_getElem_cons hi,show f-1+1=f by omega]
theorem eU.blank (hc:eP s[i]=true):eU s (i+1) out:=by
 obtain ⟨f,h2,h3⟩:=h.unf hi;refine ⟨hi,by have:=h.2.1;omega,f,h2,?_⟩;rw [h3,dh,if_pos hc]
theorem eU.hash (hb:eP s[i]=false) (hc:s[i]=35):eU s (bQ (· != 10) s (i+1)) out:=by
 obtain ⟨f,h2,h3⟩:=h.unf hi;have hle:=xQ (p:=(· != 10)) (s:=s) (i:=i+1) hi;refine ⟨hle.2,by have:=h.2.1;omega,f,by omega,?_⟩;rw [h3,dh,hb,if_neg (by simp),if_pos hc,BF];rfl
theorem eU.sym (hb:eP s[i]=false) (hh:s[i]≠35) (hr:dB s[i]=false) (hc:qE s[i]=true):eU s (i+1) (out++[(4,[s[i]],i)]):=by
 obtain ⟨f,h2,h3⟩:=h.unf hi;refine ⟨hi,by have:=h.2.1;simp;omega,f,h2,?_⟩;rw [h3,dh,hb,if_neg (by simp),if_neg hh,hr,if_neg (by simp),if_pos hc,Option.map_map];congr 1;funext x;simp
theorem eU.bad (hb:eP s[i]=false) (hh:s[i]≠35) (hr:dB s[i]=false) (hc:qE s[i]=false):jB s=none:=by
 obtain ⟨f,h2,h3⟩:=h.unf hi;rw [h3,dh,hb,if_neg (by simp),if_neg hh,hr,if_neg (by simp),hc,if_neg (by simp)];rfl
theorem eU.RN (hr:dB s[i]=true) (hk:dG ((s.drop i).take (bQ dB s i-i))=0):jB s=none:=by
 obtain ⟨f,h2,h3⟩:=h.unf hi;obtain ⟨hb,hh⟩:=Ej hr;rw [BD] at hk;rw [h3,dh,hb,if_neg (by simp),if_neg hh,if_pos hr,← List.drop_eq_getElem_cons hi,if_pos hk];rfl
theorem eU.run (hr:dB s[i]=true) (hk:dG ((s.drop i).take (bQ dB s i-i))≠0):i<bQ dB s i∧eU s (bQ dB s i) (out++[(dG ((s.drop i).take (bQ dB s i-i)),(s.drop i).take (bQ dB s i-i),i)]):=by
 obtain ⟨f,h2,h3⟩:=h.unf hi;obtain ⟨hb,hh⟩:=Ej hr;have hle:=xQ (p:=dB) (s:=s) (i:=i+1) hi;have hs:=jM hi hr;refine ⟨by omega,by omega,by have:=h.2.1;simp;omega,f,by omega,?_⟩;rw [BD] at hk ⊢;rw [h3,dh,hb,if_neg (by simp),if_neg hh,if_pos hr,← List.drop_eq_getElem_cons hi,if_neg hk,Option.map_map,BF];show _=(dh f (i+((s.drop i).takeWhile dB).length) _).map _;congr 1;funext x;simp
end
theorem jP:∀ (f n:Nat) (s:Str) (l:List Tk),dh f n s=some l→∃ r m,l=r++[(0,[],m)]∧(∀ x∈r,x.1≠0)∧r.length≤s.length
 | 0,_,_,_,h=>by cases h
 | f+1,n,[],l,h=>by
   rw [dh] at h;cases h;exact ⟨[],n,rfl,(fun x hx=>(List.not_mem_nil hx).elim),Nat.le_refl _⟩
 | f+1,n,c::s,l,h=>by
   rw [dh] at h;split at h
   ·obtain ⟨r,m,h1,h2,h3⟩:=jP f _ _ _ h;exact ⟨r,m,h1,h2,by simp;omega⟩
   ·split at h
    ·obtain ⟨r,m,h1,h2,h3⟩:=jP f _ _ _ h;have:=mX (p:=(· != 10)) s;exact ⟨r,m,h1,h2,by simp;omega⟩
    ·split at h
     ·rename_i hr;split at h
      ·cases h
      ·rename_i hk;obtain ⟨l',h4,rfl⟩:=Option.map_eq_some_iff.1 h;obtain ⟨r,m,h1,h2,h3⟩:=jP f _ _ _ h4;have hd:((c::s).dropWhile dB).length≤s.length:=by
        rw [List.dropWhile_cons,if_pos hr];exact mX s
       refine ⟨_::r,m,by rw [h1];rfl,fun x hx=>?_,by simp;omega⟩;rcases List.mem_cons.1 hx with rfl | hx
       ·exact hk
       ·exact h2 x hx
     ·split at h
      ·obtain ⟨l',h4,rfl⟩:=Option.map_eq_some_iff.1 h;obtain ⟨r,m,h1,h2,h3⟩:=jP f _ _ _ h4;refine ⟨_::r,m,by rw [h1];rfl,fun x hx=>?_,by simp;omega⟩;rcases List.mem_cons.1 hx with rfl | hx
       ·exact (by decide:(4:Nat)≠0)
       ·exact h2 x hx
      ·cases h
def pI (l:List Tk):Prop:=0<l.length∧l.length≤1000000∧∀ i (h:i<l.length),l[i].1≠0→i+1<l.length
theorem zH {s:Str} {l:List Tk} (h:jB s=some l) (hs:s.length≤100000):pI l:=by
 obtain ⟨r,m,rfl,h2,h3⟩:=jP _ _ _ _ h;refine ⟨by simp,by simp;omega,fun i hi hk=>?_⟩;rw [List.length_append] at hi ⊢;simp only [List.length_cons,List.length_nil] at hi ⊢;by_cases hr:i<r.length
 ·omega
 ·have h0:i-r.length=0:=by omega
  exact absurd (by rw [List.getElem_append_right (by omega)];simp only [h0];rfl) hk
theorem jm {l:List Tk} {i:Nat} (h:i<l.length):l.drop i=l[i]::l.drop (i+1):=List.drop_eq_getElem_cons h
theorem pz {l:List Tk} {i:Nat} (h:i<l.length):dZ (l.drop i)=(l[i].1==1||(l[i].1==2||l[i].1==3)):=by
 rw [jm h];rfl
theorem vT {l:List Tk} {i:Nat} (h:i<l.length) (s:Str):cZ s (l.drop i)=((l[i].1==4||l[i].1==5)&&l[i].2.1==s):=by
 rw [jm h];rfl
theorem tail_drop {l:List Tk} {i:Nat}:(l.drop i).tail=l.drop (i+1):=by rw [List.tail_drop]
theorem iV {l:List Tk} (he:pI l) {i:Nat} (h:i<l.length) {s:Str} (hs:cZ s (l.drop i)=true):i+1<l.length:=by
 rw [vT h] at hs;refine he.2.2 i h fun h0=>?_
 rw [h0] at hs;exact absurd hs (by simp)
theorem Ar {l:List Tk} (he:pI l) {i:Nat} (h:i<l.length) (hs:dZ (l.drop i)=true):i+1<l.length:=by
 rw [pz h] at hs;refine he.2.2 i h fun h0=>?_
 rw [h0] at hs;exact absurd hs (by decide)
def Kw:Nat→Nat
 | 0=>0
 | k+1=>18+4*(Kw k+1)
theorem nO:∀ (k:Nat) (t:Tm),bH false k t=true→(aH t).length≤Kw k
 | 0,.mk s l,h=>by simp [bH] at h
 | k+1,.mk s l,h=>by
   rw [bH] at h;have hname:∀ {s:Str},nameB s=true∨bM s=true→s.length≤16:=fun h=>by
    rcases h with h | h
    ·unfold nameB jZ at h;simp only [Bool.and_eq_true,decide_eq_true_eq] at h;omega
    ·unfold bM at h;simp only [Bool.and_eq_true,decide_eq_true_eq] at h;omega
   cases l with
   | nil=>
     rw [fE,List.map_nil,parens,List.append_nil];have:=hname (by simpa using h);unfold Kw;omega
   | cons t ts=>
     have h2:(t::ts).length≤4∧(t::ts).all (bH false k)=true∧nameB s=true:=by
      split at h
      ·rename_i h4;exact ⟨h4,by simpa using h⟩
      ·cases h
     have hs:=hname (.inl h2.2.2);have hj:∀ l:List Tm,l.all (bH false k)=true→((l.map aH).map fun x=>x.length+1).sum≤l.length*(Kw k+1):=fun l=>by
      induction l with
      | nil=>intro _;simp
      | cons a l ih=>
        intro h;rw [List.all_cons,Bool.and_eq_true] at h;have h1:=ih h.2;have h3:=nO k a h.1;simp only [List.map_cons,List.sum_cons,List.length_cons,Nat.add_mul];simp only [List.map_map] at h1 ⊢;omega
     have h5:=join_le (sep:=[44]) (k:=1) (by simp) ((t::ts).map aH);have h6:=hj _ h2.2.1;have h7:=Nat.mul_le_mul_right (Kw k+1) h2.1;rw [fE,List.length_append];have hp:(parens ((t::ts).map aH)).length=(Lib.join ((t::ts).map aH) [44]).length+2:=by
      rw [List.map_cons,parens];simp
     rw [hp];unfold Kw;omega
end Go.Own
namespace Go.Proofs
open Go Go.RowKit Go.Shelf Go.Own
theorem dA {P:Program} {t:TypeId} (h:P.underlying t=some .string) {s:Str} {i:Nat} (hi:i<s.length) (w:World):(Instr.index t (.string ⟨s.toArray⟩) (.int .i64 i)).run P w = .ok (.int .u8 s[i].toNat) w:=by
 rw [run_index_string w t ⟨s.toArray⟩ .i64 i h,dif_pos ⟨by omega,by simp [ByteArray.size];omega⟩];rfl
theorem dF (s:Str) (i j:Nat):(⟨s.toArray⟩:ByteArray).extract i j=⟨((s.drop i).take (j-i)).toArray⟩:=by
 rw [ByteArray.extract_mk]
theorem str_slice {P:Program} {t:TypeId} (h:P.underlying t=some .string) {s:Str} {i j:Nat} (hij:i≤j) (hj:j≤s.length) (w:World):(Instr.slice t (.string ⟨s.toArray⟩) (some (.int .i64 i)) (some (.int .i64 j)) none).run P w = .ok (.string ⟨((s.drop i).take (j-i)).toArray⟩) w:=by
 rw [run_slice_string_if w t ⟨s.toArray⟩ .i64 .i64 i j h,if_pos ⟨by omega,by simp [ByteArray.size];omega⟩,if_pos ⟨by omega,by omega⟩];simp only [Int.toNat_natCast,dF]
def AO (P:Program) (f:FuncId) (p:UInt8→Bool):Prop:=∀ (c:UInt8) (w:World),Calls P f #[.int .u8 c.toNat] w fun e w'=>e = .returned (.bool (p c))∧Below w.heap.size w w'
set_option maxHeartbeats 1000000 in
set_option maxRecDepth 100000 in
theorem Tryz.CP:AO Tryz.prog 245 dB:=fun c w=>by
 have hn:dB c=true↔_:=pY;generalize dB c=b at hn;have hc0:(0:Int)≤c.toNat:=by omega
 generalize (c.toNat:Int)=k at hn hc0
 go_enter Tryz.func245,Tryz.ntmps245
 go_wp2
 all_goals go_ret
 all_goals refine ⟨?_,Below.refl _ _⟩
 all_goals
  change Ending.returned (.bool _)=Ending.returned (.bool b);refine congrArg (fun b=>Ending.returned (.bool b)) ?_;rw [Bool.eq_iff_iff,hn];simp
  try omega
theorem D6 {c:UInt8}:eP c=true↔(c.toNat:Int)=32∨(c.toNat:Int)=9∨(c.toNat:Int)=10∨(c.toNat:Int)=13:=by
 have h:∀ n:UInt8,c=n↔(c.toNat:Int)=n.toNat:=fun n=>⟨fun e=>by rw [e],fun e=>by rw [← UInt8.toNat_inj];omega⟩
 simp only [eP,Bool.or_eq_true,beq_iff_eq,h];rfl
theorem Lu {c:UInt8}:qE c=true↔(c.toNat:Int)=40∨(c.toNat:Int)=41∨(c.toNat:Int)=44∨(c.toNat:Int)=46:=by
 have h:∀ n:UInt8,c=n↔(c.toNat:Int)=n.toNat:=fun n=>⟨fun e=>by rw [e],fun e=>by rw [← UInt8.toNat_inj];omega⟩
 simp only [qE,Bool.or_eq_true,beq_iff_eq,h];rfl
theorem ZH {c n:UInt8}:(c != n)=true↔(c.toNat:Int)≠n.toNat:=by
 rw [bne_iff_ne];exact ⟨fun h e=>h (by rw [← UInt8.toNat_inj];omega),fun h e=>h (by rw [e])⟩
set_option maxHeartbeats 1000000 in
set_option maxRecDepth 100000 in
theorem Tryz.qh:AO Tryz.prog 242 eP:=fun c w=>by
 have hn:eP c=true↔_:=D6;generalize eP c=b at hn;generalize (c.toNat:Int)=k at hn
 go_enter Tryz.func242,Tryz.ntmps242
 go_wp2
 all_goals go_ret
 all_goals refine ⟨?_,Below.refl _ _⟩
 all_goals
  change Ending.returned (.bool _)=Ending.returned (.bool b);refine congrArg (fun b=>Ending.returned (.bool b)) ?_;rw [Bool.eq_iff_iff,hn];simp
  try omega
set_option maxHeartbeats 1000000 in
set_option maxRecDepth 100000 in
theorem Tryz.aeB:AO Tryz.prog 244 (· != 10):=fun c w=>by
 have hn:(c != 10)=true↔_:=ZH;obtain ⟨b,hb⟩:∃ b,(c != 10)=b:=⟨_,rfl⟩
 show Calls _ _ _ _ fun e w'=>e = .returned (.bool (c != 10))∧_
 rw [hb] at hn ⊢
 go_enter Tryz.func244,Tryz.ntmps244
 go_wp2
 all_goals go_ret
 all_goals refine ⟨?_,Below.refl _ _⟩
 all_goals
  change Ending.returned (.bool _)=Ending.returned (.bool b);refine congrArg (fun b=>Ending.returned (.bool b)) ?_;rw [Bool.eq_iff_iff,hn];simp
  try omega
end Go.Proofs
namespace Go.Proofs
open Go.RowKit Go.Shelf
def Tryz.lays145_ren:Go.Shelf.Ren:=⟨fun | 145=>51 | 220=>99 | 219=>164 | 217=>98 | 225=>238 | 224=>239 | 267=>240 | 266=>163 | 314=>312 | n=>n,fun | 9=>9 | 4=>4 | 59=>108 | 3=>3 | 5=>5 | 46=>149 | 146=>343 | 51=>335 | n=>n,fun | 1=>0 | n=>n⟩
theorem Tryz.lays145:Go.Proofs.Lays.n145 Tryz.prog Tryz.lays145_ren:={
 mixed:=by kernel_rfl
 f145:=Tryz.func51.trans (congrArg some (by kernel_rfl))
 f217:=Tryz.func98.trans (congrArg some (by kernel_rfl))
 f219:=Tryz.func164.trans (congrArg some (by kernel_rfl))
 f220:=Tryz.func99.trans (congrArg some (by kernel_rfl))
 f224:=Tryz.func239.trans (congrArg some (by kernel_rfl))
 f225:=Tryz.func238.trans (congrArg some (by kernel_rfl))
 f266:=Tryz.func163.trans (congrArg some (by kernel_rfl))
 f267:=Tryz.func240.trans (congrArg some (by kernel_rfl))
 f314:=Tryz.func312.trans (congrArg some (by kernel_rfl))
 t3:=Tryz.underlying3
 a3:=Tryz.isAgg3
 z3:=Tryz.sizeOf3
 v3:=Tryz.zeroValue3
 t4:=Tryz.underlying4
 a4:=Tryz.isAgg4
 z4:=Tryz.sizeOf4
 v4:=Tryz.zeroValue4
 t5:=Tryz.underlying5
 a5:=Tryz.isAgg5
 z5:=Tryz.sizeOf5
 v5:=Tryz.zeroValue5
 t9:=Tryz.underlying9
 a9:=Tryz.isAgg9
 z9:=Tryz.sizeOf9
 v9:=Tryz.zeroValue9
 t46:=Tryz.underlying149
 a46:=Tryz.isAgg149
 z46:=Tryz.sizeOf149
 v46:=Tryz.zeroValue149
 t51:=Tryz.underlying335
 a51:=Tryz.isAgg335
 z51:=Tryz.sizeOf335
 v51:=Tryz.zeroValue335
 t59:=Tryz.underlying108
 a59:=Tryz.isAgg108
 z59:=Tryz.sizeOf108
 v59:=Tryz.zeroValue108
 t146:=Tryz.underlying343
 a146:=Tryz.isAgg343
 z146:=Tryz.sizeOf343
 v146:=Tryz.zeroValue343
 g1:=by kernel_rfl }
theorem Tryz.akp (s:ByteArray) (m:Int) (w:World) (hs:s.size<100000) (hm:w.cell? ⟨0,0,none⟩=some (.int .i64 m)) :
  Calls Tryz.prog 51 #[.string s,.string ⟨#[58,32]⟩] w fun e w'=>e = .returned (.tuple #[.string ⟨(Lib.cut s.data.toList [58,32]).1.toArray⟩,.string ⟨(Lib.cut s.data.toList [58,32]).2.1.toArray⟩,.bool (Lib.cut s.data.toList [58,32]).2.2])∧∃ n,w'=w.drewN n:=
 Any.strings_Cut Tryz.lays145 s ⟨#[58,32]⟩ m w (by omega) hm
end Go.Proofs
namespace Go.Proofs
open Go Go.RowKit Go.Shelf Go.Own
theorem um:∀ s:Str,(wu s=none∧Lib.index s [58,32]=-1)∨(∃ a b,wu s=some (a,b)∧Lib.index s [58,32]=(a.length:Nat)∧s=a++58::32::b)
 | [] => .inl ⟨rfl,rfl⟩
 | [c] => .inl ⟨rfl,by simp [Lib.index,List.isPrefixOf]⟩
 | c::d::r=>by
   by_cases h:c=58∧d=32
   ·obtain ⟨rfl,rfl⟩:=h;exact .inr ⟨[],r,by rw [wu,if_pos ⟨rfl,rfl⟩],by simp [Lib.index,List.isPrefixOf],rfl⟩
   ·have hp:List.isPrefixOf [58,32] (c::d::r)=false:=by
     simp only [List.isPrefixOf,Bool.and_true,Bool.and_eq_false_iff,beq_eq_false_iff_ne];by_cases h0:c=58
     ·exact .inr (fun e=>h ⟨h0,e.symm⟩)
     ·exact .inl (fun e=>h0 e.symm)
    rw [wu,if_neg h,Lib.index,hp,if_neg (by simp)];rcases um (d::r) with ⟨h1,h2⟩ | ⟨a,b,h1,h2,h3⟩
    ·exact .inl ⟨by rw [h1];rfl,by rw [h2];rfl⟩
    ·refine .inr ⟨c::a,b,by rw [h1];rfl,?_,by rw [h3];rfl⟩;rw [h2,if_neg (by simp)];rw [List.length_cons];rfl
theorem V7 (s:Str):Lib.cut s [58,32]=match wu s with | some (a,b)=>(a,b,true) | none=>(s,[],false):=by
 rcases um s with ⟨h1,h2⟩ | ⟨a,b,h1,h2,h3⟩
 ·rw [Lib.cut,h1,h2];rfl
 ·rw [Lib.cut,h1,h2,if_pos (by omega)];simp only [Int.toNat_natCast];rw [h3];simp
theorem hidL {p:Prop} (h:p):Hid p:=h
def trimS (s:Str):Str:=if s.length≠0∧s.drop (s.length-1)=[10] then s.take (s.length-1) else s
theorem PN {a:Str}:trimS (a++[10])=a:=by
 rw [trimS,if_pos ⟨by simp,by simp⟩];simp
theorem PL {a:Str} (h:10∉a):trimS a=a:=by
 rw [trimS,if_neg];rintro ⟨_,e⟩;exact h (List.mem_of_mem_drop (by rw [e];simp))
set_option maxHeartbeats 1000000 in
set_option maxRecDepth 100000 in
theorem Tryz.aeW (s:Str) (hs:s.length≤16384) (w:World):Calls Tryz.prog 106 #[.string ⟨s.toArray⟩,.string ⟨#[10]⟩] w fun e w'=>e = .returned (.bool (decide (s.length≠0∧s.drop (s.length-1)=[10])))∧Below w.heap.size w w':=by
 go_enter Tryz.func106,Tryz.ntmps106
 by_cases h0:s.length=0
 ·obtain rfl:=List.length_eq_zero_iff.1 h0
  go_wp2
  go_ret
  refine ⟨?_,Below.refl _ _⟩;rw [decide_eq_false (by simp)];rfl
 ·have hl1:1≤s.length:=by omega
  have hx:((⟨s.toArray⟩:ByteArray).extract (s.length-1) s.length).toList=s.drop (s.length-1):=by
   rw [Lib.toList_data,Lib.extract_data];exact List.take_of_length_le (by simp)
  go_wp2
  go_ret
  refine ⟨?_,Below.refl _ _⟩;change Ending.returned (.bool _)=_;refine congrArg (fun b=>Ending.returned (.bool b)) ?_;rw [Bool.eq_iff_iff];simp [h0]
set_option maxHeartbeats 1000000 in
set_option maxRecDepth 100000 in
theorem Tryz.agV (s:Str) (hs:s.length≤16384) (w:World):Calls Tryz.prog 57 #[.string ⟨s.toArray⟩,.string ⟨#[10]⟩] w fun e w'=>e = .returned (.string ⟨(trimS s).toArray⟩)∧Below w.heap.size w w':=by
 have c:=Tryz.aeW s hs w;unfold trimS;by_cases h:s.length≠0∧s.drop (s.length-1)=[10]
 ·rw [decide_eq_true h] at c;rw [if_pos h];have hl1:1≤s.length:=by omega
  have hx:(⟨s.toArray⟩:ByteArray).extract 0 (s.length-1)=⟨(s.take (s.length-1)).toArray⟩:=by rw [dF];simp
  replace h:=hidL h
  go_enter Tryz.func57,Tryz.ntmps57
  go_wp2_with (go_at_call 106;refine c.mono ?_;rintro e w1 ⟨rfl,hb⟩)
  go_ret
  exact ⟨rfl,hb⟩
 ·rw [decide_eq_false h] at c;rw [if_neg h]
  replace h:=hidL h
  go_enter Tryz.func57,Tryz.ntmps57
  go_wp2_with (go_at_call 106;refine c.mono ?_;rintro e w1 ⟨rfl,hb⟩)
  go_ret
  exact ⟨rfl,hb⟩
set_option maxHeartbeats 1000000 in
set_option maxRecDepth 100000 in
theorem Tryz.agU (s:Str) (hs:s.length≤16384) (w:World):Calls Tryz.prog 19 #[.string ⟨s.toArray⟩,.string ⟨#[10]⟩] w fun e w'=>e = .returned (.string ⟨(trimS s).toArray⟩)∧Below w.heap.size w w':=by
 have c:=Tryz.agV s hs w
 go_enter Tryz.func19,Tryz.ntmps19
 go_wp2_with (go_at_call 57;refine c.mono ?_;rintro e w1 ⟨rfl,hb⟩)
 go_ret
 exact ⟨rfl,hb⟩
end Go.Proofs
namespace Go.Own
def pT (l:List Tk) (v i:Nat):Option (Tm×List Tk):=iO (l.length-i) v (l.drop i)
def pL (l:List Tk) (v:Nat) (acc:List Tm) (i:Nat):Option (List Tm×List Tk):=nI (l.length-i+1) v acc (l.drop i)
def pJ (l:List Tk) (acc:List Tm) (i:Nat):Option (List Tm×List Tk):=nJ (l.length-i) acc (l.drop i)
section
variable {l:List Tk} {v i j:Nat} {acc:List Tm} {t:Tm}
theorem aac (hi:i<l.length) (h:dZ (l.drop i)=false):pT l v i=none:=by
 obtain ⟨f,hf⟩:∃ f,l.length-i=f+1:=⟨l.length-i-1,by omega⟩
 rw [pT,hf];rw [jm hi] at h ⊢;rw [iO,if_pos h]
theorem L6 (hi:i<l.length) (h:4<v):pT l v i=none:=by
 obtain ⟨f,hf⟩:∃ f,l.length-i=f+1:=⟨l.length-i-1,by omega⟩
 rw [pT,hf,jm hi,iO,if_pos h,ite_self]
theorem xZ (hi:i<l.length) (h:dZ (l.drop i)=true) (hv:¬ 4<v) (hk:l[i].1≠1∨cZ [40] (l.drop (i+1))=false):pT l v i=some (.mk l[i].2.1 [],l.drop (i+1)):=by
 obtain ⟨f,hf⟩:∃ f,l.length-i=f+1:=⟨l.length-i-1,by omega⟩
 rw [pT,hf];rw [jm hi] at h ⊢;rw [iO,if_neg (by rw [h];simp),if_neg hv,if_pos hk]
theorem Ez (hi:i<l.length) (h:dZ (l.drop i)=true) (hv:¬ 4<v) (hk:l[i].1=1) (hp:cZ [40] (l.drop (i+1))=true) (h2:i+2<l.length) :
  pT l v i=match pL l v [] (i+2) with
   | some (ts,r')=>if cZ [41] r'=true then some (.mk l[i].2.1 ts,r'.tail) else none
   | none=>none:=by
 obtain ⟨f,hf⟩:∃ f,l.length-i=f+1:=⟨l.length-i-1,by omega⟩
 rw [pT,hf,pL];rw [jm hi] at h ⊢;rw [iO,if_neg (by rw [h];simp),if_neg hv,if_neg (by simp [hk,hp]),tail_drop,(tV f (l.length-(i+2)+1)).2 v [] _ (by rw [List.length_drop];omega) (by rw [List.length_drop];omega)]<;>rfl
theorem MC (h:acc.length=4) (hb:dZ (l.drop i)=true):pL l v acc i=none:=by rw [pL,nI,if_pos ⟨h,hb⟩]
theorem Me (h:pT l (v+1) i=none):pL l v acc i=none:=by
 rw [pL,nI];unfold pT at h;rw [h];simp
theorem MB (hj:j<l.length) (hij:i<j) (hn:¬ (acc.length=4∧dZ (l.drop i)=true)) (h:pT l (v+1) i=some (t,l.drop j)) (hc:cZ [44] (l.drop j)=true):pL l v acc i=pL l v (acc++[t]) (j+1):=by
 rw [pL,nI,if_neg hn];unfold pT at h;rw [h];simp only [];rw [if_pos hc,tail_drop,pL];exact (tV _ _).2 _ _ _ (by rw [List.length_drop];omega) (by rw [List.length_drop];omega)
theorem EC (hn:¬ (acc.length=4∧dZ (l.drop i)=true)) (h:pT l (v+1) i=some (t,l.drop j)) (hc:cZ [44] (l.drop j)=false):pL l v acc i=some (acc++[t],l.drop j):=by
 rw [pL,nI,if_neg hn];unfold pT at h;rw [h];simp only [];rw [if_neg (by rw [hc];simp)]
theorem MF (hi:i<l.length) (h:pT l 1 i=none):pJ l acc i=none:=by
 obtain ⟨f,hf⟩:∃ f,l.length-i=f+1:=⟨l.length-i-1,by omega⟩
 unfold pT at h;rw [hf] at h;rw [pJ,hf,nJ,h]
theorem Xw (hj:j<l.length) (hij:i<j) (h:pT l 1 i=some (t,l.drop j)) (hc:cZ [44] (l.drop j)=true):pJ l acc i=pJ l (acc++[t]) (j+1):=by
 obtain ⟨f,hf⟩:∃ f,l.length-i=f+1:=⟨l.length-i-1,by omega⟩
 unfold pT at h;rw [hf] at h;rw [pJ,hf,nJ,h];simp only [];rw [if_pos hc,tail_drop,pJ];exact Ci _ _ _ _ (by rw [List.length_drop];omega) (by rw [List.length_drop];omega)
theorem Xx (hi:i<l.length) (h:pT l 1 i=some (t,l.drop j)) (hc:cZ [44] (l.drop j)=false):pJ l acc i=some (acc++[t],l.drop j):=by
 obtain ⟨f,hf⟩:∃ f,l.length-i=f+1:=⟨l.length-i-1,by omega⟩
 unfold pT at h;rw [hf] at h;rw [pJ,hf,nJ,h];simp only [];rw [if_neg (by rw [hc];simp)]
end
theorem BP {s:Str} (h:jB s=none):gQ s=none:=by rw [gQ,h]
theorem yT {s:Str} {l:List Tk} (h:jB s=some l) (hp:pT l 1 0=none):gQ s=none:=by
 rw [pT,Nat.sub_zero,List.drop_zero] at hp;rw [gQ,h];simp only [];rw [hp]
theorem BO {s:Str} {l:List Tk} {t:Tm} {j:Nat} (h:jB s=some l) (hj:j<l.length) (hp:pT l 1 0=some (t,l.drop j)):gQ s=if l[j].1=0 then some t else none:=by
 rw [pT,Nat.sub_zero,List.drop_zero] at hp;rw [gQ,h];simp only [];rw [hp,jm hj];obtain ⟨k,x,n⟩:=l[j];cases k<;>simp
theorem BR {s:Str} (h:jB s=none):iF s=none:=by rw [iF,h]
theorem BQ {s:Str} {l:List Tk} (h:jB s=some l) (h0:0<l.length) (hk:l[0].1=0):iF s=some []:=by
 rw [iF,h];cases l with
 | nil=>cases h0
 | cons a l=>
   obtain ⟨k,x,n⟩:=a;simp only [List.getElem_cons_zero] at hk;subst hk;rfl
theorem rE {s:Str} {l:List Tk} (h:jB s=some l) (h0:0<l.length) (hk:l[0].1≠0):iF s=match pJ l [] 0 with | some (ts,(0,_,_)::_)=>some ts | _=>none:=by
 rw [pJ,Nat.sub_zero,List.drop_zero,iF,h];cases l with
 | nil=>cases h0
 | cons a l=>
   obtain ⟨k,x,n⟩:=a;cases k with
   | zero=>exact absurd rfl hk
   | succ k=>rfl
theorem JG {s:Str} {l:List Tk} (h:jB s=some l) (h0:0<l.length) (hk:l[0].1≠0) (hp:pJ l [] 0=none):iF s=none:=by
 rw [rE h h0 hk,hp]
theorem Qa {s:Str} {l:List Tk} {ts:List Tm} {j:Nat} (h:jB s=some l) (h0:0<l.length) (hk:l[0].1≠0) (hj:j<l.length) (hp:pJ l [] 0=some (ts,l.drop j)):iF s=if l[j].1=0 then some ts else none:=by
 rw [rE h h0 hk,hp,jm hj];obtain ⟨k,x,n⟩:=l[j];cases k<;>simp
theorem zf:∀ (f:Nat) (acc:List Tm) (r:List Tk) (ts:List Tm) (r':List Tk),nJ f acc r=some (ts,r')→ts.length≤acc.length+r.length
 | 0,_,_,_,_,h=>by cases h
 | f+1,acc,r,ts,r',h=>by
   rw [nJ] at h;split at h
   ·rename_i t r2 ht;have h1:=(xY (f+1)).1 _ _ _ _ ht;split at h
    ·rename_i h3;have h4:=mP h3;have:=zf f _ _ _ _ h;rw [List.length_append] at this;simp only [List.length_cons,List.length_nil] at this;omega
    ·cases h;simp;omega
   ·cases h
theorem wJ {s:Str} {ts:List Tm} (h:iF s=some ts):ts.length≤s.length+1:=by
 cases h0:jB s with
 | none=>rw [BR h0] at h;cases h
 | some l=>
   obtain ⟨r,m,h1,h2,h3⟩:=jP _ _ _ _ h0;have hpos:0<l.length:=(by rw [h1];simp);by_cases hk:l[0].1=0
   ·rw [BQ h0 hpos hk] at h;cases h;exact Nat.zero_le _
   ·rw [rE h0 hpos hk] at h;split at h
    ·rename_i hp;cases h;have:=zf _ _ _ _ _ hp;rw [List.length_drop,h1] at this;simp only [List.length_append,List.length_cons,List.length_nil] at this;omega
    ·cases h
theorem Ub:Kw 4=1870:=rfl
theorem yF:∀ l:List Tm,l.all (bH false 4)=true→((l.map aH).map fun x=>x.length+2).sum≤l.length*1872
 | [],_=>Nat.le_refl _
 | a::l,h=>by
   rw [List.all_cons,Bool.and_eq_true] at h;have h6:=yF l h.2;have h7:=nO 4 a h.1;rw [Ub] at h7;rw [List.map_cons,List.map_cons,List.sum_cons,List.length_cons,Nat.add_mul];omega
theorem Qp {x:Sn} {n:Nat} (h:mY x=true) (hn:x.2.length≤n):(textS x).length≤1873+n*1872:=by
 obtain ⟨t,l⟩:=x;simp only [mY,Bool.and_eq_true] at h;obtain ⟨h1,h2,_⟩:=h;have h3:=nO 4 t h1;have h4:=join_le (sep:=[44,32]) (k:=2) (by simp) (l.map aH);have h5:=yF l h2;have h6:=Nat.mul_le_mul_right 1872 (show l.length≤n from hn);rw [Ub] at h3;simp only [textS,List.length_append,List.length_cons,List.length_nil];omega
theorem CZ {n:Nat}:∀ (v:List Sn),v.all mY=true→(∀ x∈v,x.2.length≤n)→(bI v).length≤v.length*(1873+n*1872)
 | [],_,_=>by simp [bI]
 | x::v,h,hn=>by
   rw [List.all_cons,Bool.and_eq_true] at h;have h1:=Qp h.1 (hn x (by simp));have h2:=CZ v h.2 (fun y hy=>hn y (List.mem_cons_of_mem _ hy));have:bI (x::v)=textS x++bI v:=(by simp [bI]);rw [this,List.length_append,List.length_cons,Nat.add_mul];omega
end Go.Own
