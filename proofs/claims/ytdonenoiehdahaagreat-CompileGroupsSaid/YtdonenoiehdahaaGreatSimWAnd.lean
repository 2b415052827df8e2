/- Sim: a call's run is told once and met again at other ids. -/
import Derived.Test.YtdonenoiehdahaaGreatSimQAnd
import Derived.Laws.Externs
import Derived.Lib.Bytealg
set_option linter.all false
namespace Go.Sim
open Go Go.RowKit
open Go.Abs (TE TK SK TOK)
section
variable {P:Program} {T:Nat→TE} {w0:World} {ng:Nat}
end
section
variable {P:Program} {T:Nat→TE} {w0:World} {ng:Nat}
end
abbrev Pre:=List V→Tr Obj→B→FR→FR
def Uz (P:Program) (T:Nat→TE) (w0:World) (ng f:Nat) (pre:Pre):Prop:=∀ args t nx e v t' nx',pre args t nx e = .ret v t' nx'→Comes P T w0 ng f args t nx v t' nx'∨e = .ret v t' nx'
noncomputable def a2 {R:Type} (l:List V):(V→V→R)→R→R:=match l with | [a,b]=>fun K _=>K a b | _=>fun _ e=>e
theorem afU {R:Type} {l:List V} {K:V→V→R} {e r:R} (h:a2 l K e=r) (he:e≠r):∃ a b,l=[a,b]∧K a b=r:=by
 match l,h with
 | [a,b],h=>exact ⟨a,b,rfl,h⟩
 | [],h=>exact absurd h he
 | [_],h=>exact absurd h he
 | _::_::_::_,h=>exact absurd h he
noncomputable def bC (l n l' n':Nat):Int:=match strLt l n l' n' with | true=>-1 | false=>match strEq l n l' n' with | true=>0 | false=>1
noncomputable def P9:Pre:=fun args t nx _=>a2 args (fun a b=>gB a (fun l n=>gB b (fun l' n'=>lW (bC l n l' n') fun c => .ret (.int .i64 c) t nx) (.bad 201)) (.bad 201)) (.bad 201)
theorem qU:∀ a b:List UInt8,Lib.compareBytes a b=if Op.bytesLess a b=true then -1 else if a=b then 0 else 1
 | [],[]=>by simp [Lib.compareBytes,Op.bytesLess]
 | [],_::_=>by simp [Lib.compareBytes,Op.bytesLess]
 | _::_,[]=>by simp [Lib.compareBytes,Op.bytesLess]
 | x::xs,y::ys=>by
   have ih:=qU xs ys;unfold Lib.compareBytes Op.bytesLess;by_cases h1:x<y
   ·simp [h1]
   ·by_cases h2:y<x
    ·have:x≠y:=fun e=>by subst e;exact h1 h2
     simp [h1,h2,this]
    ·have e:x=y:=by
      have h3:=UInt8.not_lt.1 h1;have h4:=UInt8.not_lt.1 h2;exact UInt8.le_antisymm h4 h3
     subst e;simp only [UInt8.lt_irrefl,if_false];rw [ih];simp
section
variable {P:Program} {T:Nat→TE} {w0:World} {ng:Nat}
theorem IK {f:Nat} {fn:Func} (hf:P.funcs[f]?=some fn) (hname:(fn.name == "runtime.NumGoroutine")=false) (hb:fn.body.isNone=true) (hn:Extern.findNext fn=none) (he:Extern.find fn=some Extern.BytealgCompare.compare):Uz P T w0 ng f P9:=by
 intro args t nx e v t' nx' h;have hbad:∀ n,FR.bad n ≠ .ret v t' nx':=fun n h=>by cases h
 obtain ⟨a,b,rfl,h1⟩:=afU (show a2 args _ _=_ from h) (hbad _);obtain ⟨l,n,rfl,h2⟩:=gy h1 (hbad _);obtain ⟨l',n',rfl,h3⟩:=gy h2 (hbad _);rw [fO] at h3;cases h3;refine .inl (.inr ⟨rfl,rfl,⟨fn,hf,hb⟩,fun g hp w vs g1 g2 g3=>?_⟩);obtain ⟨x,vs1,rfl,hx,g3⟩:=g3.inv;obtain ⟨y,vs2,rfl,hy,g3⟩:=g3.inv;have:=g3.Dl;subst this;cases hx with
 | str s hs=>
 cases hy with
 | str s' hs'=>
 refine ⟨_,by rw [run_callFunc_extern hf hname hb hn he];rw [Lib.run_compareString];rfl,?_⟩;have:bC s.length (aW s) s'.length (aW s')=Lib.compareBytes s s':=by
  rw [qU];unfold bC;rw [oO,yt];cases h1:Op.bytesLess s s' with
  | true=>simp
  | false=>
    by_cases h2:s=s'
    ·simp [h2]
    ·have h3:(s==s')=false:=(by simpa using h2);simp [h2,h3]
 rw [this];exact .int _ _
end
def Z4 (nt:Nat):List Oper→Bool
 | []=>true
 | o::os=>and (match o.dst with | some x=>Nat.blt x nt | none=>true) (Z4 nt os)
theorem LJ {nt:Nat}:∀ {os:List Oper},Z4 nt os=true→∀ o∈os,∀ x,o.dst=some x→x<nt
 | [],_,o,h=>by simp at h
 | p::os,h,o,ho=>by
   obtain ⟨h1,h2⟩:=aB h;rcases List.mem_cons.1 ho with rfl | ho
   ·intro x hx;rw [hx] at h1;exact aX.1 h1
   ·exact LJ h2 o ho
def drB (d:Bool) (ops:List Oper) (l:List DI):Bool:=match d with | true=>Yh ops l | false=>true
def qV (ann:Nat→List DI) (nt:Nat):Code→Bool
 | .region id ops d=>and (Z4 nt ops.toList) (drB d ops.toList (ann id))
 | .seq a b=>and (qV ann nt a) (qV ann nt b)
 | .cond _ a b=>and (qV ann nt a) (qV ann nt b)
 | .block _ c=>qV ann nt c
 | .loop c=>qV ann nt c
 | _=>true
section
variable {P:Program} {T:Nat→TE} {w0:World} {ng:Nat}
theorem Yo (hT:TOK P T) (hm:P.follows .mixedOrders=true) {ann:Nat→List DI} {nt:Nat} (c:Code):qV ann nt c=true→qO P T w0 ng nt ann c:=by
 induction c with
 | region id ops d=>
   intro h;obtain ⟨h1,h2⟩:=aB (show and (Z4 nt ops.toList) (drB d ops.toList (ann id))=true from h);refine ⟨LJ h1,fun hd=>?_⟩;subst hd;exact Yg hT hm (LJ h1) h2
 | seq a b iha ihb=>
   intro h;obtain ⟨h1,h2⟩:=aB (show and (qV ann nt a) (qV ann nt b)=true from h);exact ⟨iha h1,ihb h2⟩
 | cond x a b iha ihb=>
   intro h;obtain ⟨h1,h2⟩:=aB (show and (qV ann nt a) (qV ann nt b)=true from h);exact ⟨iha h1,ihb h2⟩
 | block _ c ih=>exact fun h=>ih h
 | loop c ih=>exact fun h=>ih h
 | _=>exact fun _=>trivial
def okB (fn:Func) (ann:Nat→List DI):Bool:=and (not (fn.name == "runtime.NumGoroutine")) (match fn.body with | some c=>qV ann fn.ntmps c | none=>false)
theorem aj (hT:TOK P T) (hm:P.follows .mixedOrders=true) {f:Nat} {fn:Func} {ann:Nat→List DI} (h1:P.funcs[f]?=some fn) (h2:okB fn ann=true):ay P T w0 ng f (aO fn ann):=by
 obtain ⟨h3,h4⟩:=aB h2;cases hb:fn.body with
 | none=>rw [hb] at h4;cases h4
 | some c=>
   rw [hb] at h4;refine ⟨fn,h1,by simpa using h3,?_,rfl,rfl,?_⟩
   ·simp only [aO,hb]
   ·simp only [aO,hb];exact Yo hT hm c h4
def jM (P:Program) (T:Nat→TE) (w0:World) (ng:Nat) (f:Nat) (fe:FE):Prop:=
 ∀ args t nx e v t' nx',fe.pre args t nx e = .ret v t' nx'→Comes P T w0 ng f args t nx v t' nx'∨(e = .ret v t' nx'∧ay P T w0 ng f fe)
theorem ah {f:Nat} {fn:Func} {ann:Nat→List DI} (h:ay P T w0 ng f (aO fn ann)):jM P T w0 ng f (aO fn ann):=fun _ _ _ _ _ _ _ he => .inr ⟨he,h⟩
theorem uP {f:Nat} {fe:FE} {pre:Pre} (hp:Uz P T w0 ng f pre) (hf:∀ args t nx e,pre args t nx e=pre args t nx (.bad 0)):jM P T w0 ng f { fe with pre:=pre }:=fun args t nx e v t' nx' he=>by
 have he:pre args t nx e = .ret v t' nx':=he;rw [hf] at he;rcases hp _ _ _ _ _ _ _ he with h | h
 ·exact .inl h
 ·cases h
def FT.All (p:Nat→FE→Prop):FT→Prop
 | .nil=>True
 | .leaf f e=>p f e
 | .node _ l r=>l.All p∧r.All p
theorem FT.Hg {p:Nat→FE→Prop}:∀ {t:FT},t.All p→∀ f fe,t.look f=some fe→p f fe
 | .nil,_,f,fe,h=>by cases h
 | .leaf g e,ha,f,fe,h=>by
   have h:(match Nat.beq g f with | true=>some e | false=>none)=some fe:=h;split at h
   ·rename_i hg;cases h;rw [← beq_iff.1 hg];exact ha
   ·cases h
 | .node m l r,ha,f,fe,h=>by
   have h:(match Nat.blt f m with | true=>l.look f | false=>r.look f)=some fe:=h;split at h
   ·exact FT.Hg ha.1 f fe h
   ·exact FT.Hg ha.2 f fe h
theorem FT.fok {t:FT} (h:t.All (jM P T w0 ng)):FOK P T w0 ng t.look:=fun f fe hf=>FT.Hg h f fe hf
end
end Go.Sim
