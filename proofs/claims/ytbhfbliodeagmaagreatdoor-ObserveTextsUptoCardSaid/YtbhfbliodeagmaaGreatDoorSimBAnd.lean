/- Sim: what the trees, the eliminators and the numbers do. -/
import Derived.Test.YtbhfbliodeagmaaGreatDoorSimAOne
set_option linter.all false
namespace Go.Sim
open Go
open Go.Abs (TE TK SK)
def B.num (k:B):Nat:=k.n
theorem B.eX:∀ {a b:B},a.num=b.num→a=b
 | ⟨_⟩,⟨_⟩,h=>congrArg B.mk h
def B.inc (k:B):B:=⟨k.n+1⟩
theorem B.gV (b:B):b.inc.num=b.num+1:=rfl
theorem B.Jl {R:Type} (k:B) (K:B→R):k.acv K=K k.inc:=rfl
theorem xZ (n:Nat):(bOf n).num=n:=rfl
theorem ni {m n:Nat} (h:bOf m=bOf n):m=n:=by rw [← xZ m,h,xZ n]
section
variable {α R:Type}
theorem B.eP (k:B) (t:Tr α) (v:Option α) (K:Tr α→R):k.jQ t v K=K (k.put t v):=ofT α R k.n t v K
theorem B.bW (k:B):k.get (.lf:Tr α)=none:=lfT α k.n
theorem B.cZ (k:B) (t:Tr α) (v:Option α):k.get (k.put t v)=v:=(okT α k.n).gp t v
theorem B.jq (k k':B) (t:Tr α) (v:Option α) (h:k'≠k):k'.get (k.put t v)=k'.get t:=anU α (fun e=>h (B.eX e)) t v
theorem B.get_put (k k':B) (t:Tr α) (v:Option α):k'.get (k.put t v)=if k'=k then v else k'.get t:=by
 by_cases h:k'=k
 ·rw [if_pos h,h];exact B.cZ k t v
 ·rw [if_neg h];exact B.jq k k' t v h
theorem aH (m:Nat) (K:Nat→R):aV m K=K m:=by cases m<;>rfl
theorem fQ (n:Int) (K:Int→R):lK n K=K n:=by cases n<;>exact aH _ _
theorem bF (b:Bool) (K:Bool→R):dG b K=K b:=by cases b<;>rfl
theorem aS (b:Bool) (x y:R):aI b x y=if b=true then x else y:=by cases b<;>rfl
theorem aG {b:Bool} {x y r:R} (h:aI b x y=r) (hy:y≠r):b=true∧x=r:=by
 cases b
 ·exact absurd h hy
 ·exact ⟨rfl,h⟩
theorem kX:∀ (l:List V) (K:List V→R),yX l K=K l
 | [],_=>rfl
 | v::vs,K=>kX vs fun r=>K (v::r)
theorem G5 (v:V) (K:V→R):PO v K=K v:=by
 cases v<;>first | rfl | exact kX _ _
theorem jm (n:Nat) (x y:R):isZero n x y=if n=0 then x else y:=by cases n<;>rfl
end
noncomputable def dB (cs:Tr V):(off n:Nat)→Option (List V)
 | _,0=>some []
 | off,n+1=>match (bOf off).get cs,dB cs (off+1) n with
   | some v,some vs=>some (v::vs)
   | _,_=>none
section
variable {R:Type}
theorem SI (cs:Tr V):∀ (n off:Nat) (K:List V→R) (e:R),vP n cs off K e=match dB cs off n with | some vs=>K vs | none=>e
 | 0,_,_,_=>rfl
 | n+1,off,K,e=>by
   show (Option.rec (motive:=fun _=>R) e (fun v=>vP n cs (off+1) (fun vs=>K (v::vs)) e) ((bOf off).get cs))=_
   unfold dB
   cases h:(bOf off).get cs with
   | none=>rfl
   | some v=>
     show vP n cs (off+1) (fun vs=>K (v::vs)) e=_
     rw [SI cs n (off+1)]
     cases dB cs (off+1) n<;>rfl
theorem kK {cs:Tr V} {n off:Nat} {K:List V→R} {e r:R} (h:vP n cs off K e=r) (he:e≠r):∃ vs,dB cs off n=some vs∧K vs=r:=by
 rw [SI] at h
 cases hc:dB cs off n with
 | none=>rw [hc] at h;exact absurd h he
 | some vs=>rw [hc] at h;exact ⟨vs,rfl,h⟩
theorem bV {cs:Tr V}:∀ {n off:Nat} {vs:List V},dB cs off n=some vs→vs.length=n∧∀ j,j<n→(bOf (off+j)).get cs=vs[j]?
 | 0,_,vs,h=>by simp [dB] at h;subst h;exact ⟨rfl,fun j hj=>absurd hj (Nat.not_lt_zero j)⟩
 | n+1,off,vs,h=>by
   unfold dB at h
   split at h
   ·rename_i v vs' h1 h2
    obtain ⟨i1,i2⟩:=bV h2
    simp at h
    subst h
    refine ⟨by simp [i1],fun j hj=>?_⟩
    cases j with
    | zero=>simpa using h1
    | succ j=>rw [show off+(j+1)=off+1+j by omega,i2 j (by omega)];simp
   ·cases h
noncomputable def eu:List V→Tr V→Nat→Tr V
 | [],cs,_=>cs
 | v::vs,cs,off=>eu vs ((bOf off).put cs (some v)) (off+1)
theorem dX:∀ (vs:List V) (cs:Tr V) (off:Nat) (K:Tr V→R),ou vs cs off K=K (eu vs cs off)
 | [],_,_,_=>rfl
 | v::vs,cs,off,K=>by
   show (bOf off).jQ cs (some v) (fun cs'=>ou vs cs' (off+1) K)=_
   rw [B.eP,dX vs];rfl
theorem bT:∀ (vs:List V) (cs:Tr V) (off i:Nat),(bOf i).get (eu vs cs off)=if off≤i∧i<off+vs.length then vs[i-off]? else (bOf i).get cs
 | [],cs,off,i=>by rw [if_neg (by simp only [List.length_nil];omega)];rfl
 | v::vs,cs,off,i=>by
   show (bOf i).get (eu vs ((bOf off).put cs (some v)) (off+1))=_
   rw [bT vs _ (off+1) i,B.get_put]
   by_cases h1:off+1≤i∧i<off+1+vs.length
   ·rw [if_pos h1,if_pos (by simp;omega),show i-off=(i-(off+1))+1 by omega];simp
   ·rw [if_neg h1]
    by_cases h2:i=off
    ·subst h2;rw [if_pos rfl,if_pos (by simp)];simp
    ·rw [if_neg (fun e=>h2 (ni e)),if_neg (by simp;omega)]
def rep:Nat→List V→List V
 | 0,_=>[]
 | m+1,vs=>vs++rep m vs
theorem wJ:∀ (m:Nat) (vs:List V) (K:List V→R),U7 m vs K=K (rep m vs)
 | 0,_,_=>rfl
 | m+1,vs,K=>by
   show U7 m vs (fun r=>K (vs++r))=_
   rw [wJ m];rfl
theorem iP:∀ (m:Nat) (vs:List V),(rep m vs).length=m*vs.length
 | 0,_=>by simp [rep]
 | m+1,vs=>by simp only [rep,List.length_append,iP m,Nat.succ_mul];omega
theorem AZ:∀ (m:Nat) (vs:List V) (i:Nat),0<vs.length→i<m*vs.length→(rep m vs)[i]?=vs[i % vs.length]?
 | 0,vs,i,_,h=>by simp at h
 | m+1,vs,i,hp,h=>by
   simp only [rep]
   by_cases hi:i<vs.length
   ·rw [List.getElem?_append_left hi,Nat.mod_eq_of_lt hi]
   ·rw [List.getElem?_append_right (by omega),AZ m vs _ hp (by rw [Nat.succ_mul] at h;omega)]
    rw [Nat.mod_eq_sub_mod (by omega:i≥vs.length)]
theorem tq {v:V} {K:Bool→R} {e r:R} (h:asBool v K e=r) (he:e≠r):∃ x0,v = .bool x0∧K x0=r:=by
 cases v<;>first | exact absurd h he | exact ⟨_,rfl,h⟩
theorem VP {v:V} {K:Bool→R} {e r:R} (h:asBool v K e=r):(∃ x0,v = .bool x0∧K x0=r)∨((∀ x0,v ≠ .bool x0)∧e=r):=by
 cases v<;>first | exact .inl ⟨_,rfl,h⟩ | exact .inr ⟨fun _=>nofun,h⟩
theorem dF {v:V} {K:IntKind→Int→R} {e r:R} (h:asInt v K e=r) (he:e≠r):∃ x0 x1,v = .int x0 x1∧K x0 x1=r:=by
 cases v<;>first | exact absurd h he | exact ⟨_,_,rfl,h⟩
theorem fM {v:V} {K:Nat→Nat→R} {e r:R} (h:gq v K e=r) (he:e≠r):∃ x0 x1,v = .str x0 x1∧K x0 x1=r:=by
 cases v<;>first | exact absurd h he | exact ⟨_,_,rfl,h⟩
theorem jM {v:V} {K:B→Nat→R} {e r:R} (h:jO v K e=r) (he:e≠r):∃ x0 x1,v = .ptr x0 x1∧K x0 x1=r:=by
 cases v<;>first | exact absurd h he | exact ⟨_,_,rfl,h⟩
theorem abf {v:V} {K:B→Nat→R} {e r:R} (h:jO v K e=r):(∃ x0 x1,v = .ptr x0 x1∧K x0 x1=r)∨((∀ x0 x1,v ≠ .ptr x0 x1)∧e=r):=by
 cases v<;>first | exact .inl ⟨_,_,rfl,h⟩ | exact .inr ⟨fun _ _=>nofun,h⟩
theorem x9 {v:V} {K:B→Nat→Nat→Nat→Option Nat→R} {e r:R} (h:oU v K e=r) (he:e≠r):∃ x0 x1 x2 x3 x4,v = .sl x0 x1 x2 x3 x4∧K x0 x1 x2 x3 x4=r:=by
 cases v<;>first | exact absurd h he | exact ⟨_,_,_,_,_,rfl,h⟩
theorem jG {v:V} {K:B→Nat→Nat→Nat→Option Nat→R} {e r:R} (h:oU v K e=r):(∃ x0 x1 x2 x3 x4,v = .sl x0 x1 x2 x3 x4∧K x0 x1 x2 x3 x4=r)∨((∀ x0 x1 x2 x3 x4,v ≠ .sl x0 x1 x2 x3 x4)∧e=r):=by
 cases v<;>first | exact .inl ⟨_,_,_,_,_,rfl,h⟩ | exact .inr ⟨fun _ _ _ _ _=>nofun,h⟩
theorem EL {v:V} {K:B→R} {e r:R} (h:uH v K e=r) (he:e≠r):∃ x0,v = .map x0∧K x0=r:=by
 cases v<;>first | exact absurd h he | exact ⟨_,rfl,h⟩
theorem NS {v:V} {K:B→R} {e r:R} (h:uH v K e=r):(∃ x0,v = .map x0∧K x0=r)∨((∀ x0,v ≠ .map x0)∧e=r):=by
 cases v<;>first | exact .inl ⟨_,rfl,h⟩ | exact .inr ⟨fun _=>nofun,h⟩
theorem yg {v:V} {K:Nat→List V→List V→R} {e r:R} (h:KJ v K e=r) (he:e≠r):∃ x0 x1 x2,v = .fn x0 x1 x2∧K x0 x1 x2=r:=by
 cases v<;>first | exact absurd h he | exact ⟨_,_,_,rfl,h⟩
theorem oV {v:V} {K:List V→R} {e r:R} (h:asAgg v K e=r) (he:e≠r):∃ x0,v = .agg x0∧K x0=r:=by
 cases v<;>first | exact absurd h he | exact ⟨_,rfl,h⟩
theorem abe {v:V} {K:List V→R} {e r:R} (h:EK v K e=r) (he:e≠r):∃ x0,v = .tup x0∧K x0=r:=by
 cases v<;>first | exact absurd h he | exact ⟨_,rfl,h⟩
theorem jc {v:V} {K:V→R} {e r:R} (h:uj v K e=r) (he:e≠r):(v = .aj∨v = .gI)∧K v=r:=by
 cases v<;>first | exact absurd h he | exact ⟨.inl rfl,h⟩ | exact ⟨.inr rfl,h⟩
theorem Gx {v:V} {x e r:R} (h:Ph v x e=r) (he:e≠r):v = .iw∧x=r:=by
 cases v<;>first | exact absurd h he | exact ⟨rfl,h⟩
theorem lG {l:List V} {K:V→R} {e r:R} (h:l1 l K e=r) (he:e≠r):∃ a,l=[a]∧K a=r:=by
 rcases l with _ | ⟨a,_ | ⟨b,l⟩⟩<;>first | exact absurd h he | exact ⟨_,rfl,h⟩
theorem mV {l:List V} {K:V→V→R} {e r:R} (h:l2 l K e=r) (he:e≠r):∃ a b,l=[a,b]∧K a b=r:=by
 rcases l with _ | ⟨a,_ | ⟨b,_ | ⟨c,l⟩⟩⟩<;>first | exact absurd h he | exact ⟨_,_,rfl,h⟩
theorem RJ {l:List V} {K:V→V→V→R} {e r:R} (h:l3 l K e=r) (he:e≠r):∃ a b c,l=[a,b,c]∧K a b c=r:=by
 rcases l with _ | ⟨a,_ | ⟨b,_ | ⟨c,_ | ⟨d,l⟩⟩⟩⟩<;>first | exact absurd h he | exact ⟨_,_,_,rfl,h⟩
theorem RI {l:List V} {K:V→List V→R} {e r:R} (h:lc l K e=r) (he:e≠r):∃ a b,l=a::b∧K a b=r:=by
 rcases l with _ | ⟨a,l⟩<;>first | exact absurd h he | exact ⟨_,_,rfl,h⟩
theorem fO {o:Option Obj} {K:Bool→Nat→Nat→Tr V→R} {e r:R} (h:ji o K e=r) (he:e≠r):∃ ro sz hi cs,o=some (.blk ro sz hi cs)∧K ro sz hi cs=r:=by
 rcases o with _ | ⟨ro,sz,hi,cs⟩ | ⟨kt,es⟩<;>first | exact absurd h he | exact ⟨_,_,_,_,rfl,h⟩
theorem yc {o:Option Obj} {K:Nat→List (V×V)→R} {e r:R} (h:VO o K e=r) (he:e≠r):∃ kt es,o=some (.map kt es)∧K kt es=r:=by
 rcases o with _ | ⟨ro,sz,hi,cs⟩ | ⟨kt,es⟩<;>first | exact absurd h he | exact ⟨_,_,rfl,h⟩
theorem eU {α:Type} {o:Option α} {K:α→R} {e r:R} (h:jS o K e=r) (he:e≠r):∃ v,o=some v∧K v=r:=by
 cases o<;>first | exact absurd h he | exact ⟨_,rfl,h⟩
theorem jo {i:Int} {len:Nat} {K:Nat→R} {e r:R} (h:inB i len K e=r) (he:e≠r):∃ m:Nat,i=m∧m<len∧K m=r:=by
 cases i with
 | ofNat m=>
   obtain ⟨h1,h2⟩:=aG (b:=Nat.blt m len) h he
   exact ⟨m,rfl,Nat.le_of_ble_eq_true h1,h2⟩
 | negSucc m=>exact absurd h he
end
theorem aB {a b:Bool} (h:and a b=true):a=true∧b=true:=by cases a<;>cases b<;>simp_all
theorem kH {k k':IntKind} (h:Nat.beq (ikN k) (ikN k')=true):k=k':=by
 cases k<;>cases k'<;>first | rfl | exact absurd h (by decide)
theorem aj2 {n:Nat} {x:X} {env:Tr V} {t:Tr Obj} {nx:B}:R.bad n≠R.ok x env t nx:=fun h=>by cases h
end Go.Sim
namespace Go.Sim
open Go
def aU:List UInt8→Nat
 | []=>0
 | b::bs=>b.toNat*2 ^ (8*bs.length)+aU bs
theorem H9:∀ (s:List UInt8) (acc:Nat),EG s acc=acc*2 ^ (8*s.length)+aU s
 | [],acc=>by simp [EG,aU]
 | b::bs,acc=>by
   simp only [EG,H9 bs,aU,List.length_cons]
   have h2:2 ^ (8*(bs.length+1))=256*2 ^ (8*bs.length):=by rw [Nat.mul_succ,Nat.pow_add,Nat.mul_comm]
   rw [Nat.add_mul,h2,← Nat.mul_assoc]
   omega
theorem oW:∀ s:List UInt8,aU s<2 ^ (8*s.length)
 | []=>by simp [aU]
 | b::bs=>by
   have h:=oW bs
   have hb:b.toNat<256:=b.toNat_lt
   simp only [aU,List.length_cons]
   rw [Nat.mul_succ,Nat.pow_add]
   have h1:b.toNat*2 ^ (8*bs.length)≤255*2 ^ (8*bs.length):=Nat.mul_le_mul_right _ (by omega)
   have h2:2 ^ (8*bs.length)*2 ^ 8=256*2 ^ (8*bs.length):=by rw [Nat.mul_comm]
   omega
theorem dU:∀ s s':List UInt8,aU (s++s')=aU s*2 ^ (8*s'.length)+aU s'
 | [],s'=>by simp [aU]
 | b::bs,s'=>by
   simp only [List.cons_append,aU,dU bs s',List.length_append]
   rw [Nat.mul_add 8,Nat.pow_add,Nat.add_mul,Nat.mul_assoc]
   omega
theorem nX:∀ {s s':List UInt8},s.length=s'.length→aU s=aU s'→s=s'
 | [],[],_,_=>rfl
 | [],_::_,h,_=>by simp at h
 | _::_,[],h,_=>by simp at h
 | b::bs,c::cs,h,hv=>by
   have hl:bs.length=cs.length:=by simpa using h
   simp only [aU] at hv
   rw [hl] at hv
   have h1:=oW bs
   have h2:=oW cs
   rw [hl] at h1
   have hp:0<2 ^ (8*cs.length):=Nat.two_pow_pos _
   have hb:b.toNat=c.toNat:=by
    have e1:(b.toNat*2 ^ (8*cs.length)+aU bs) / 2 ^ (8*cs.length)=b.toNat:=by
     rw [Nat.mul_comm,Nat.mul_add_div hp,Nat.div_eq_of_lt h1];rfl
    have e2:(c.toNat*2 ^ (8*cs.length)+aU cs) / 2 ^ (8*cs.length)=c.toNat:=by
     rw [Nat.mul_comm,Nat.mul_add_div hp,Nat.div_eq_of_lt h2];rfl
    rw [← e1,hv,e2]
   have hv':aU bs=aU cs:=by rw [hb] at hv;omega
   rw [nX hl hv',UInt8.toNat_inj.1 hb]
theorem FP (s:List UInt8) (h:Nat):aU (s.take h)=aU s / 2 ^ (8*(s.length-h)):=by
 have e:=dU (s.take h) (s.drop h)
 rw [List.take_append_drop] at e
 have hl:(s.drop h).length=s.length-h:=List.length_drop
 have hlt:=oW (s.drop h)
 rw [hl] at e hlt
 rw [e,Nat.mul_comm,Nat.mul_add_div (Nat.two_pow_pos _),Nat.div_eq_of_lt hlt];rfl
theorem UM (s:List UInt8) (l:Nat):aU (s.drop l)=aU s % 2 ^ (8*(s.length-l)):=by
 have e:=dU (s.take l) (s.drop l)
 rw [List.take_append_drop] at e
 have hl:(s.drop l).length=s.length-l:=List.length_drop
 have hlt:=oW (s.drop l)
 rw [hl] at e hlt
 rw [e,Nat.mul_comm,Nat.mul_add_mod,Nat.mod_eq_of_lt hlt]
theorem KX (s:List UInt8) (i:Nat) (c:UInt8) (hc:s[i]?=some c):aU s / 2 ^ (8*(s.length-1-i)) % 256=c.toNat:=by
 obtain ⟨hi,hci⟩:=List.getElem?_eq_some_iff.1 hc
 have e1:=FP s (i+1)
 rw [show s.length-1-i=s.length-(i+1) by omega,← e1,List.take_succ_eq_append_getElem hi,dU,hci]
 simp only [List.length_cons,List.length_nil,aU]
 rw [show (8*(0+1))=8 by rfl]
 have:c.toNat<256:=c.toNat_lt
 rw [show (2:Nat) ^ 8=256 by rfl]
 simp
theorem UK (a b:Bool):and a b=true↔a=true∧b=true:=by cases a<;>cases b<;>simp
theorem wB (s s':List UInt8):strEq s.length (aU s) s'.length (aU s')=(s==s'):=by
 rw [Bool.eq_iff_iff]
 unfold strEq
 rw [UK]
 constructor
 ·rintro ⟨h1,h2⟩
  rw [nX (Nat.eq_of_beq_eq_true h1) (Nat.eq_of_beq_eq_true h2)];simp
 ·intro h
  have:s=s':=by simpa using h
  subst this
  exact ⟨Nat.beq_refl _,Nat.beq_refl _⟩
theorem jF:∀ (s s':List UInt8),Op.bytesLess s s'=true ↔
  (aU s*2 ^ (8*(s'.length-s.length))<aU s'*2 ^ (8*(s.length-s'.length)) ∨
   (aU s*2 ^ (8*(s'.length-s.length))=aU s'*2 ^ (8*(s.length-s'.length))∧s.length<s'.length))
 | s,[]=>by cases s<;>simp [Op.bytesLess,aU]
 | [],b::bs=>by
   simp only [Op.bytesLess,aU,Nat.zero_mul,List.length_nil,List.length_cons,Nat.zero_sub,Nat.mul_zero,Nat.pow_zero,Nat.mul_one,true_iff]
   omega
 | a::x,b::y=>by
   have ih:=jF x y
   have hx:=oW x
   have hy:=oW y
   simp only [Op.bytesLess,aU,List.length_cons,Nat.add_sub_add_right]
   rw [Bool.or_eq_true,Bool.and_eq_true,decide_eq_true_eq,beq_iff_eq,ih,UInt8.lt_iff_toNat_lt]
   generalize hm:2 ^ (8*(y.length-x.length))=p at *
   generalize hn:2 ^ (8*(x.length-y.length))=q at *
   have hpq:2 ^ (8*x.length)*p=2 ^ (8*y.length)*q:=by
    rw [← hm,← hn,← Nat.pow_add,← Nat.pow_add];congr 1;omega
   have hp:0<p:=by rw [← hm];exact Nat.two_pow_pos _
   have hq:0<q:=by rw [← hn];exact Nat.two_pow_pos _
   have hx':aU x*p<2 ^ (8*x.length)*p:=Nat.mul_lt_mul_of_pos_right hx hp
   have hy':aU y*q<2 ^ (8*x.length)*p:=by rw [hpq];exact Nat.mul_lt_mul_of_pos_right hy hq
   rw [Nat.add_mul,Nat.add_mul,Nat.mul_assoc,Nat.mul_assoc,← hpq]
   generalize 2 ^ (8*x.length)*p=Z at *
   generalize aU x*p=u at *
   generalize aU y*q=v at *
   have hlen:x.length+1<y.length+1↔x.length<y.length:=by omega
   rw [hlen]
   rcases Nat.lt_trichotomy a.toNat b.toNat with h | h | h
   ·have:(a.toNat+1)*Z≤b.toNat*Z:=Nat.mul_le_mul_right _ h
    rw [Nat.succ_mul] at this
    constructor
    ·intro _;left;omega
    ·intro _;exact .inl h
   ·have hab:a=b:=UInt8.toNat_inj.1 h
    subst hab
    constructor
    ·rintro (h1 | ⟨_,h1⟩)
     ·omega
     ·omega
    ·intro h1;right;exact ⟨rfl,by omega⟩
   ·have:(b.toNat+1)*Z≤a.toNat*Z:=Nat.mul_le_mul_right _ h
    rw [Nat.succ_mul] at this
    constructor
    ·rintro (h1 | ⟨h1,_⟩)
     ·omega
     ·subst h1;omega
    ·rintro (h1 | ⟨h1,_⟩)<;>omega
theorem Xv (a b:Bool):or a b=true↔a=true∨b=true:=by cases a<;>cases b<;>simp
theorem aO {a b:Nat}:Nat.blt a b=true↔a<b:=⟨Nat.le_of_ble_eq_true,fun h=>Nat.ble_eq_true_of_le h⟩
theorem beq_iff {a b:Nat}:Nat.beq a b=true↔a=b:=⟨Nat.eq_of_beq_eq_true,fun h=>h ▸ Nat.beq_refl a⟩
theorem aX {a b:Nat}:Nat.ble a b=true↔a≤b:=⟨Nat.le_of_ble_eq_true,Nat.ble_eq_true_of_le⟩
theorem oh (s s':List UInt8):strLt s.length (aU s) s'.length (aU s')=Op.bytesLess s s':=by
 rw [Bool.eq_iff_iff,jF]
 unfold strLt
 rw [Xv,UK,aO,beq_iff,aO]
 show Nat.shiftLeft _ (8*_)<Nat.shiftLeft _ (8*_)∨Nat.shiftLeft _ (8*_)=Nat.shiftLeft _ (8*_)∧_↔_
 have e:∀ a b,Nat.shiftLeft a b=a*2 ^ b:=fun a b=>Nat.shiftLeft_eq a b
 rw [e,e]
 exact Iff.rfl
theorem qh (s s':List UInt8):(Op.bytesLess s s'||s==s')=!Op.bytesLess s' s:=by
 have h1:=jF s s'
 have h2:=jF s' s
 have hv:=@nX s s'
 rw [Bool.eq_iff_iff,Bool.or_eq_true,Bool.not_eq_true',beq_iff_eq,h1]
 constructor
 ·rintro (h | h)
  ·cases hc:Op.bytesLess s' s with
   | false=>rfl
   | true=>rw [h2] at hc;omega
  ·subst h
   cases hc:Op.bytesLess s s with
   | false=>rfl
   | true=>rw [h2] at hc;omega
 ·intro h
  have h3:¬ (Op.bytesLess s' s=true):=by rw [h];simp
  rw [h2] at h3
  by_cases hl:s.length=s'.length
  ·rw [hl] at h3 ⊢
   simp only [Nat.sub_self,Nat.mul_zero,Nat.pow_zero,Nat.mul_one] at h3 ⊢
   by_cases he:aU s=aU s'
   ·exact .inr (hv hl he)
   ·omega
  ·omega
end Go.Sim
namespace Go.Sim
open Go Go.RowKit
open Go.Abs (TE TK SK TOK TFacts)
structure Pl where
 b:Nat
 o:Nat
 n:Nat
abbrev Gh:=B→Pl
inductive RV (g:Gh) (n:Nat):V→Value→Prop
 | bool (b:Bool):RV g n (.bool b) (.bool b)
 | int (k:IntKind) (m:Int):RV g n (.int k m) (.int k m)
 | str (s:List UInt8):s.length≤maxL→RV g n (.str s.length (aU s)) (.string ⟨s.toArray⟩)
 | dN:RV g n .dN (.pointer none)
 | ptr (id:B) (off:Nat):id.num<n→RV g n (.ptr id off) (.pointer (some ⟨(g id).b,(g id).o+off,none⟩))
 | aj:RV g n .aj (.slice none 0 0)
 | gI (a:Option Addr):RV g n .gI (.slice a 0 0)
 | sl (id:B) (sz off len:Nat) (cap:Option Nat) (a:Option Addr) (c:Nat):id.num<n→len≤c→c≤maxL→(∀ k,cap=some k→c=k)→0<sz→off+c*sz≤(g id).n →
   (0<c→a=some ⟨(g id).b,(g id).o+off,none⟩)→RV g n (.sl id sz off len cap) (.slice a len c)
 | iw:RV g n .iw (.map none)
 | map (id:B):id.num<n→RV g n (.map id) (.map (some (g id).b))
 | iF:RV g n .iF .nilFunc
 | fn (f:Nat) (fs cs:List V) (vf vc:Array Value):vf.size=fs.length→(∀ (i:Nat) c v,fs[i]?=some c→vf[i]?=some v→RV g n c v)→vc.size=cs.length→(∀ (i:Nat) c v,cs[i]?=some c→vc[i]?=some v→RV g n c v) →
   RV g n (.fn f fs cs) (.func (.func f) vf vc)
 | iM:RV g n .iM .nilIface
 | ifc (t:Nat) (v:V) (x:Value):RV g n v x→RV g n (.ifc t v) (.iface t x)
 | agg (cs:List V) (vs:Array Value):vs.size=cs.length→(∀ (i:Nat) c v,cs[i]?=some c→vs[i]?=some v→RV g n c v)→(∀ (i:Nat) v,vs[i]?=some v→v.oneCell'=true)→RV g n (.agg cs) (.agg vs)
 | tup (cs:List V) (vs:Array Value):vs.size=cs.length→(∀ (i:Nat) c v,cs[i]?=some c→vs[i]?=some v→RV g n c v)→RV g n (.tup cs) (.tuple vs)
 | undef:RV g n .undef Go.undef
 | any (v:Value):RV g n .any v
def Ext (g g':Gh) (n:Nat):Prop:=∀ id:B,id.num<n→g' id=g id
theorem Ext.refl (g:Gh) (n:Nat):Ext g g n:=fun _ _=>rfl
theorem Ext.trans {g g' g'':Gh} {n n':Nat} (h:Ext g g' n) (h':Ext g' g'' n') (hn:n≤n'):Ext g g'' n:=
 fun id hi=>(h' id (Nat.lt_of_lt_of_le hi hn)).trans (h id hi)
theorem RV.mono {g g':Gh} {n n':Nat} (he:Ext g g' n) (hn:n≤n') {v:V} {x:Value} (h:RV g n v x):RV g' n' v x:=by
 induction h with
 | bool b=>exact .bool b
 | int k m=>exact .int k m
 | str s h=>exact .str s h
 | dN=>exact .dN
 | ptr id off h=>rw [← he id h];exact .ptr id off (Nat.lt_of_lt_of_le h hn)
 | aj=>exact .aj
 | gI a=>exact .gI a
 | sl id sz off len cap a c h h1 h2 h3 h4 h5 h6=>exact .sl id sz off len cap a c (Nat.lt_of_lt_of_le h hn) h1 h2 h3 h4 (by rw [he id h];exact h5) (by rw [he id h];exact h6)
 | iw=>exact .iw
 | map id h=>rw [← he id h];exact .map id (Nat.lt_of_lt_of_le h hn)
 | iF=>exact .iF
 | fn f fs cs vf vc h1 h2 h3 h4 i1 i2=>exact .fn f fs cs vf vc h1 i1 h3 i2
 | iM=>exact .iM
 | ifc t v x h ih=>exact .ifc t v x ih
 | agg cs vs h1 h2 h3 ih=>exact .agg cs vs h1 ih h3
 | tup cs vs h1 h2 ih=>exact .tup cs vs h1 ih
 | undef=>exact .undef
 | any v=>exact .any v
theorem RV.oneCell {g:Gh} {n:Nat} {v:V} {x:Value} (h:RV g n v x) (h1:one v=true):x.oneCell'=true:=by
 cases h<;>first | rfl | exact absurd h1 (by simp [one])
theorem RV.cells {g:Gh} {n:Nat} {v:V} {x:Value} (h:RV g n v x) (hv:List.all (cellsOf v) one=true) :
  x.cells.size=(cellsOf v).length∧∀ (i:Nat) c u,(cellsOf v)[i]?=some c→x.cells[i]?=some u→RV g n c u∧u.oneCell'=true:=by
 have single:∀ (v:V) (x:Value),RV g n v x→x.cells=#[x]→one v=true→x.cells.size=[v].length∧∀ (i:Nat) c u,[v][i]?=some c→x.cells[i]?=some u→RV g n c u∧u.oneCell'=true:=by
  intro v x h hx h1
  rw [hx]
  refine ⟨rfl,fun i c u hc hu=>?_⟩
  cases i<;>simp at hc hu
  subst hc;subst hu
  exact ⟨h,h.oneCell h1⟩
 cases h with
 | agg cs vs h1 h2 h3=>exact ⟨h1,fun i c u hc hu=>⟨h2 i c u hc hu,h3 i u hu⟩⟩
 | tup cs vs h1 h2=>exact absurd hv (by simp [cellsOf,one])
 | undef=>exact absurd hv (by simp [cellsOf,one])
 | any v=>exact absurd hv (by simp [cellsOf,one])
 | bool b=>exact single _ _ (.bool b) rfl rfl
 | int k m=>exact single _ _ (.int k m) rfl rfl
 | str s h=>exact single _ _ (.str s h) rfl rfl
 | dN=>exact single _ _ .dN rfl rfl
 | ptr id off h=>exact single _ _ (.ptr id off h) rfl rfl
 | aj=>exact single _ _ .aj rfl rfl
 | gI a=>exact single _ _ (.gI a) rfl rfl
 | sl id sz off len cap a c h h1 h2 h3 h4 h5 h6=>exact single _ _ (.sl id sz off len cap a c h h1 h2 h3 h4 h5 h6) rfl rfl
 | iw=>exact single _ _ .iw rfl rfl
 | map id h=>exact single _ _ (.map id h) rfl rfl
 | iF=>exact single _ _ .iF rfl rfl
 | fn f fs cs vf vc h1 h2 h3 h4=>exact single _ _ (.fn f fs cs vf vc h1 h2 h3 h4) rfl rfl
 | iM=>exact single _ _ .iM rfl rfl
 | ifc t v x h=>exact single _ _ (.ifc t v x h) rfl rfl
def RVL (g:Gh) (n:Nat) (cs:List V) (vs:List Value):Prop:=vs.length=cs.length∧∀ (i:Nat) c v,cs[i]?=some c→vs[i]?=some v→RV g n c v
theorem RVL.nil {g:Gh} {n:Nat}:RVL g n [] []:=⟨rfl,fun i c v h=>by simp at h⟩
theorem RVL.cons {g:Gh} {n:Nat} {c:V} {cs:List V} {v:Value} {vs:List Value} (h:RV g n c v) (hs:RVL g n cs vs):RVL g n (c::cs) (v::vs):=
 ⟨by simp [hs.1],fun i c' v' hc hv=>by
  cases i with
  | zero=>simp at hc hv;subst hc;subst hv;exact h
  | succ i=>simp at hc hv;exact hs.2 i c' v' hc hv⟩
theorem RVL.inv {g:Gh} {n:Nat} {c:V} {cs:List V} {vs:List Value} (h:RVL g n (c::cs) vs):∃ v vs',vs=v::vs'∧RV g n c v∧RVL g n cs vs':=by
 cases vs with
 | nil=>simp [RVL] at h
 | cons v vs=>exact ⟨v,vs,rfl,h.2 0 c v rfl rfl,by have:=h.1;simp at this;exact this,fun i c' v' hc hv=>h.2 (i+1) c' v' (by simpa using hc) (by simpa using hv)⟩
theorem RVL.iI {g:Gh} {n:Nat} {vs:List Value} (h:RVL g n [] vs):vs=[]:=by simpa using h.1
theorem RVL.append {g:Gh} {n:Nat} {cs ds:List V} {vs us:List Value} (h:RVL g n cs vs) (h':RVL g n ds us):RVL g n (cs++ds) (vs++us):=
 ⟨by simp [h.1,h'.1],fun i c v hc hv=>by
  by_cases hi:i<cs.length
  ·rw [List.getElem?_append_left hi] at hc
   rw [List.getElem?_append_left (by rw [h.1];exact hi)] at hv
   exact h.2 i c v hc hv
  ·rw [List.getElem?_append_right (by omega)] at hc
   rw [List.getElem?_append_right (by rw [h.1];omega),h.1] at hv
   exact h'.2 _ c v hc hv⟩
section
variable (P:Program) (T:Nat→TE) (w0:World) (ng:Nat)
def Stamped (ents:Array MapEntry) (clock:Nat):Prop:=(∀ m∈ents.toList,m.born<clock)∧(ents.toList.map (·.born)).Nodup
def lV (g:Gh) (n:Nat) (w:World) (id:B):Obj→Prop
 | .blk ro sz hi cs=>∃ cur Tb fz,w.heap[(g id).b]?=some (.cells cur Tb fz)∧(ro=false→fz=(0,0))∧(g id).o+(g id).n≤cur.size∧sz≤(g id).n ∧
   ∀ (j:Nat) v,(bOf j).get cs=some v→j<hi∧∃ u,cur[(g id).o+j]?=some u∧RV g n v u∧u.oneCell'=true
 | .map kt es=>∃ ents clock,w.heap[(g id).b]?=some (.map ents clock)∧ents.size=es.length ∧
   (∀ (i:Nat) (m:MapEntry) (e:V×V),ents[i]?=some m→es[i]?=some e→RV g n e.1 m.key∧RV g n e.2 m.val)∧(∀ e∈es,bH (T kt) e.1=true)∧Stamped ents clock
def Obj.ro:Obj→Bool
 | .blk ro _ _ _=>ro
 | .map _ _=>false
structure HR (g:Gh) (hp:B→Option Obj) (nx:B) (w:World):Prop where
 os:w.os=w0.os
 tape:w.tape=w0.tape
 output:w.output=w0.output
 size:w0.heap.size≤w.heap.size
 old:∀ b,b<w0.heap.size→w.heap[b]?=w0.heap[b]?
 obj:∀ id o,hp id=some o→id.num<nx.num∧lV T g nx.num w id o
 sep:∀ id id' o o',hp id=some o→hp id'=some o'→id≠id'→o.ro=false→(g id).b≠(g id').b
 new:∀ id o,hp id=some o→o.ro=false→w0.heap.size≤(g id).b
 glob:∀ i,i<ng→(g (bOf i)).b=i∧(g (bOf i)).o=0
 ngx:ng≤nx.num
def Sub (t:Tr Obj) (hp:B→Option Obj):Prop:=∀ id o,id.get t=some o→hp id=some o
def Fr (t:Tr Obj) (nx:B) (hp hp':B→Option Obj):Prop:=∀ id:B,id.num<nx.num→id.get t=none→hp' id=hp id
def Dm (t:Tr Obj) (nx:B) (t':Tr Obj):Prop:=∀ id:B,id.num<nx.num→id.get t=none→id.get t'=none
structure Step (g:Gh) (hp:B→Option Obj) (t:Tr Obj) (nx:B) (w:World) (g':Gh) (hp':B→Option Obj) (t':Tr Obj) (nx':B) (w':World):Prop where
 ext:Ext g g' nx.num
 le:nx.num≤nx'.num
 hr:HR T w0 ng g' hp' nx' w'
 sub:Sub t' hp'
 fr:Fr t nx hp hp'
 dm:Dm t nx t'
 sz:w.heap.size≤w'.heap.size
 dr:ng=0→w.drawn≤w'.drawn
 un:∀ b,b<w.heap.size→(∀ id o,B.get id t=some o→o.ro=false→(g id).b≠b)→w'.heap[b]?=w.heap[b]?
 pl:∀ id o,B.get id t'=some o→o.ro=false→w.heap.size≤(g' id).b∨∃ id0 o0,B.get id0 t=some o0∧o0.ro=false∧(g id0).b=(g' id).b
 pl2:∀ id o,hp' id=some o→nx.num≤id.num→w.heap.size≤(g' id).b∨∃ id0 o0,B.get id0 t=some o0∧(g id0).b=(g' id).b
def rP (f:Nat) (args:List V) (t:Tr Obj) (nx:B) (v:V) (t':Tr Obj) (nx':B):Prop:=
 (∃ fn,P.funcs[f]?=some fn∧(fn.name == "runtime.NumGoroutine")=false∧fn.body.isNone=false) ∧
 ∀ g hp w vs,HR T w0 ng g hp nx w→Sub t hp→RVL g nx.num args vs →
   Calls P f vs.toArray w fun e w'=>∃ g' hp' val,e = .returned val∧Step T w0 ng g hp t nx w g' hp' t' nx' w'∧RV g' nx'.num v val
def aq3 (f:Nat) (args:List V) (t:Tr Obj) (nx:B) (v:V):Prop:=
 (∃ fn,P.funcs[f]?=some fn∧fn.body.isNone=true) ∧
 ∀ g hp w vs,HR T w0 ng g hp nx w→Sub t hp→RVL g nx.num args vs→∃ val,(callFunc f vs.toArray).run P w = .ok (.value val) w∧RV g nx.num v val
def Comes (f:Nat) (args:List V) (t:Tr Obj) (nx:B) (v:V) (t':Tr Obj) (nx':B):Prop:=rP P T w0 ng f args t nx v t' nx'∨(t'=t∧nx'=nx∧aq3 P T w0 ng f args t nx v)
def iT (call:Cl):Prop:=∀ f args t nx v t' nx',call f args t nx = .ret v t' nx'→Comes P T w0 ng f args t nx v t' nx'
def OpT (o:Oper) (vals:List V) (t:Tr Obj) (nx:B) (x:V) (t':Tr Obj) (nx':B):Prop:=
 ∀ g hp (a:Act) w,HR T w0 ng g hp nx w→Sub t hp→RVL g nx.num vals (o.op.operands.toList.map a.eval)→∀ (K:Act→World→Prop) (Q:Exit→Act→World→Prop),
   (∀ g' hp' v w',Step T w0 ng g hp t nx w g' hp' t' nx' w'→RV g' nx'.num x v→K (a.put o.dst v) w')→o.wp P a w K Q
def QT (o:Oper) (vals:List V) (t:Tr Obj) (nx:B) (x:V):Prop:=
 ∀ g hp (ρ:Operand→Value) w,HR T w0 ng g hp nx w→Sub t hp→RVL g nx.num vals (o.op.operands.toList.map ρ)→∃ v,(execOp ρ o).run P w = .ok (.value v) w∧RV g nx.num x v
def HQ (o:Oper) (h:H):Prop:=∀ call,iT P T w0 ng call→∀ vals t nx K r,(∀ n,R.bad n≠r)→h T call vals t nx K=r→∃ v,K v t nx=r∧QT P T w0 ng o vals t nx v
def HOK (o:Oper) (h:H):Prop:=∀ call,iT P T w0 ng call→∀ vals t nx K r,(∀ n,R.bad n≠r)→h T call vals t nx K=r→∃ v t' nx',K v t' nx'=r∧OpT P T w0 ng o vals t nx v t' nx'
end
section
variable {P:Program} {T:Nat→TE} {w0:World} {ng:Nat}
theorem Step.refl {g:Gh} {hp:B→Option Obj} {t:Tr Obj} {nx:B} {w:World} (h:HR T w0 ng g hp nx w) (hs:Sub t hp):Step T w0 ng g hp t nx w g hp t nx w:=
 ⟨.refl _ _,Nat.le_refl _,h,hs,fun _ _ _=>rfl,fun _ _ h=>h,Nat.le_refl _,fun _=>Nat.le_refl _,fun _ _ _=>rfl,fun id o h1 h2 => .inr ⟨id,o,h1,h2,rfl⟩,fun id o h1 h2=>absurd (h.obj id o h1).1 (Nat.not_lt.2 h2)⟩
theorem Step.trans {g g' g'':Gh} {hp hp' hp'':B→Option Obj} {t t' t'':Tr Obj} {nx nx' nx'':B} {w w' w'':World} (h:Step T w0 ng g hp t nx w g' hp' t' nx' w') (h':Step T w0 ng g' hp' t' nx' w' g'' hp'' t'' nx'' w'') :
  Step T w0 ng g hp t nx w g'' hp'' t'' nx'' w'':=
 ⟨h.ext.trans h'.ext h.le,Nat.le_trans h.le h'.le,h'.hr,h'.sub,fun id hi hn=>(h'.fr id (Nat.lt_of_lt_of_le hi h.le) (h.dm id hi hn)).trans (h.fr id hi hn),
  fun id hi hn=>h'.dm id (Nat.lt_of_lt_of_le hi h.le) (h.dm id hi hn),Nat.le_trans h.sz h'.sz,fun e=>Nat.le_trans (h.dr e) (h'.dr e),
  fun b hb hn=>(h'.un b (Nat.lt_of_lt_of_le hb h.sz) fun id o h1 h2 e=>by
   rcases h.pl id o h1 h2 with h3 | ⟨id0,o0,h3,h4,h5⟩
   ·omega
   ·exact hn id0 o0 h3 h4 (h5.trans e)).trans (h.un b hb hn),
  fun id o h1 h2=>by
   rcases h'.pl id o h1 h2 with h3 | ⟨id0,o0,h3,h4,h5⟩
   ·exact .inl (Nat.le_trans h.sz h3)
   ·rcases h.pl id0 o0 h3 h4 with h6 | ⟨id1,o1,h6,h7,h8⟩
    ·exact .inl (by rw [← h5];exact h6)
    ·exact .inr ⟨id1,o1,h6,h7,h8.trans h5⟩,
  fun id o h1 h2=>by
   rcases Nat.lt_or_ge id.num nx'.num with h3 | h3
   ·have e:(g' id).b=(g'' id).b:=by rw [h'.ext id h3]
    have hx:∃ o1,hp' id=some o1:=by
     cases h4:B.get id t' with
     | some o1=>exact ⟨o1,h.sub id o1 h4⟩
     | none=>exact ⟨o,by rw [← h'.fr id h3 h4];exact h1⟩
    obtain ⟨o1,h4⟩:=hx
    rcases h.pl2 id o1 h4 h2 with h6 | ⟨id0,o0,h6,h7⟩
    ·exact .inl (by rw [← e];exact h6)
    ·exact .inr ⟨id0,o0,h6,h7.trans e⟩
   ·rcases h'.pl2 id o h1 h3 with h4 | ⟨id1,o1,h4,h5⟩
    ·exact .inl (Nat.le_trans h.sz h4)
    ·rcases Nat.lt_or_ge id1.num nx.num with h6 | h6
     ·cases h7:B.get id1 t with
      | some o2=>exact .inr ⟨id1,o2,h7,by rw [← h.ext id1 h6];exact h5⟩
      | none=>rw [h.dm id1 h6 h7] at h4;cases h4
     ·rcases h.pl2 id1 o1 (h.sub id1 o1 h4) h6 with h8 | ⟨id0,o0,h8,h9⟩
      ·exact .inl (by rw [← h5];exact h8)
      ·exact .inr ⟨id0,o0,h8,h9.trans h5⟩⟩
theorem OpT.of_run {o:Oper} {vals:List V} {t:Tr Obj} {nx:B} {x:V} {t':Tr Obj} {nx':B}
  (H:∀ g hp (ρ:Operand→Value) w,HR T w0 ng g hp nx w→Sub t hp→RVL g nx.num vals (o.op.operands.toList.map ρ) →
   ∃ v w' g' hp',((execOp ρ o).run P w = .ok (.value v) w'∨(execOp ρ o).run P w = .ok .skip w'∧v=undef)∧Step T w0 ng g hp t nx w g' hp' t' nx' w'∧RV g' nx'.num x v):OpT P T w0 ng o vals t nx x t' nx':=by
 intro g hp a w hr hs hv K Q hK
 obtain ⟨v,w',g',hp',hrun,hst,hx⟩:=H g hp a.eval w hr hs hv
 unfold Oper.wp
 rcases hrun with h | ⟨h,rfl⟩
 ·rw [h];exact hK g' hp' v w' hst hx
 ·rw [h];exact hK g' hp' undef w' hst hx
theorem OpT.quiet {o:Oper} {vals:List V} {t:Tr Obj} {nx:B} {x:V}
  (H:∀ g hp (ρ:Operand→Value) w,HR T w0 ng g hp nx w→Sub t hp→RVL g nx.num vals (o.op.operands.toList.map ρ)→∃ v,(execOp ρ o).run P w = .ok (.value v) w∧RV g nx.num x v):OpT P T w0 ng o vals t nx x t nx:=
 .of_run fun g hp ρ w hr hs hv=>by
  obtain ⟨v,h1,h2⟩:=H g hp ρ w hr hs hv
  exact ⟨v,w,g,hp,.inl h1,.refl hr hs,h2⟩
theorem HQ.ok {o:Oper} {h:H} (hq:HQ P T w0 ng o h):HOK P T w0 ng o h:=fun call hc vals t nx K r hr hh=>by
 obtain ⟨v,h1,h2⟩:=hq call hc vals t nx K r hr hh
 exact ⟨v,t,nx,h1,.quiet h2⟩
theorem nD {g:Gh} {n:Nat} {a:V} {l:List Operand} {ρ:Operand→Value} {x:Operand} (hl:l=[x]) (h:RVL g n [a] (l.map ρ)):RV g n a (ρ x):=by
 subst hl;exact h.2 0 _ _ rfl rfl
theorem qE {g:Gh} {n:Nat} {a b:V} {l:List Operand} {ρ:Operand→Value} {x y:Operand} (hl:l=[x,y]) (h:RVL g n [a,b] (l.map ρ)):RV g n a (ρ x)∧RV g n b (ρ y):=by
 subst hl;exact ⟨h.2 0 _ _ rfl rfl,h.2 1 _ _ rfl rfl⟩
theorem akw {g:Gh} {n:Nat} {a b c:V} {l:List Operand} {ρ:Operand→Value} {x y z:Operand} (hl:l=[x,y,z]) (h:RVL g n [a,b,c] (l.map ρ)):RV g n a (ρ x)∧RV g n b (ρ y)∧RV g n c (ρ z):=by
 subst hl;exact ⟨h.2 0 _ _ rfl rfl,h.2 1 _ _ rfl rfl,h.2 2 _ _ rfl rfl⟩
theorem Ot (g:Gh) (n:Nat) (v:Value):RV g n (cV1 v) v:=by
 cases v with
 | bool b=>exact .bool b
 | int k m=>exact .int k m
 | string s=>
   show RV g n (cStr s.data.toList) (.string s)
   unfold cStr
   rw [aS]
   split
   ·rename_i h
    have:=RV.str (g:=g) (n:=n) s.data.toList (aX.1 h)
    rw [H9,Nat.zero_mul,Nat.zero_add]
    simpa using this
   ·exact .any _
 | slice a len cap=>
   unfold cV1
   split<;>first | exact .aj | exact .any _ | simp_all
   all_goals first | exact .aj | exact .any _
 | pointer a=>cases a with
   | none=>exact .dN
   | some a=>exact .any _
 | map r=>cases r with
   | none=>exact .iw
   | some r=>exact .any _
 | nilFunc=>exact .iF
 | nilIface=>exact .iM
 | _=>exact .any _
theorem Bf:∀ (vs:List Value) (i:Nat),(cVs vs)[i]?=vs[i]?.map cV1
 | [],i=>by simp [cVs]
 | v::vs,i=>by
   cases i with
   | zero=>simp [cVs]
   | succ i=>simp [cVs,Bf vs i]
theorem Ub:∀ (vs:List Value),(cVs vs).length=vs.length
 | []=>rfl
 | v::vs=>by simp [cVs,Ub vs]
theorem tZ (g:Gh) (n:Nat) (v:Value):RV g n (cV v) v:=by
 by_cases h:∃ cs,v = .agg cs
 ·obtain ⟨cs,rfl⟩:=h
  show RV g n (aI (List.all (cVs cs.toList) one) (.agg (cVs cs.toList)) .any) (.agg cs)
  rw [aS]
  split
  ·rename_i hall
   have hr:∀ (i:Nat) c u,(cVs cs.toList)[i]?=some c→cs[i]?=some u→RV g n c u:=fun i c u hc hu=>by
    rw [Bf] at hc
    have hu':cs.toList[i]?=some u:=by simpa using hu
    rw [hu'] at hc
    simp at hc
    subst hc
    exact Ot g n u
   refine .agg _ _ (by simp [Ub]) hr fun i u hu=>?_
   have hu':cs.toList[i]?=some u:=by simpa using hu
   have hc:(cVs cs.toList)[i]?=some (cV1 u):=by rw [Bf,hu'];rfl
   exact (hr i _ u hc hu).oneCell (List.all_eq_true.1 hall _ (List.mem_of_getElem? hc))
  ·exact .any _
 ·have:cV v=cV1 v:=by cases v<;>first | rfl | exact absurd ⟨_,rfl⟩ h
  rw [this];exact Ot g n v
end
section
variable {P:Program} {T:Nat→TE} {w0:World} {ng:Nat}
theorem xA {o:Oper} {x:Operand} (ho:o.op = .move x∨o.op = .assign x):HQ P T w0 ng o Sr:=by
 intro call _ vals t nx K r hr h
 obtain ⟨v,rfl,hK⟩:=lG h (hr _)
 refine ⟨_,hK,fun g hp ρ w h1 h2 h3=>?_⟩
 have hx:=nD (x:=x) (by rcases ho with ho | ho<;>simp [ho,Op.operands]) h3
 exact ⟨ρ x,by rcases ho with ho | ho<;>simp [execOp,ho],hx⟩
theorem MR {o:Oper} {c x y:Operand} (ho:o.op = .pick c x y):HQ P T w0 ng o adz:=by
 intro call _ vals t nx K r hr h
 obtain ⟨vc,vx,vy,rfl,k1⟩:=RJ h (hr _)
 obtain ⟨b,rfl,hK⟩:=tq k1 (hr _)
 rw [aS] at hK
 have key:∀ g hp (ρ:Operand→Value) w,HR T w0 ng g hp nx w→Sub t hp→RVL g nx.num [.bool b,vx,vy] (o.op.operands.toList.map ρ)→ρ c = .bool b∧RV g nx.num vx (ρ x)∧RV g nx.num vy (ρ y):=by
  intro g hp ρ w _ _ h3
  obtain ⟨e1,e2,e3⟩:=akw (x:=c) (y:=x) (z:=y) (by simp [ho,Op.operands]) h3
  generalize ρ c=vc at e1 ⊢
  cases e1
  exact ⟨rfl,e2,e3⟩
 split at hK
 ·rename_i hb
  subst hb
  refine ⟨_,hK,fun g hp ρ w h1 h2 h3=>?_⟩
  obtain ⟨e1,e2,_⟩:=key g hp ρ w h1 h2 h3
  exact ⟨ρ x,by simp [execOp,ho,e1,Go.asBool],e2⟩
 ·rename_i hb
  have hb:b=false:=by simpa using hb
  subst hb
  refine ⟨_,hK,fun g hp ρ w h1 h2 h3=>?_⟩
  obtain ⟨e1,_,e3⟩:=key g hp ρ w h1 h2 h3
  exact ⟨ρ y,by simp [execOp,ho,e1,Go.asBool],e3⟩
theorem xw {o:Oper} {x:Operand} (ho:o.op = .nilCheck x):HQ P T w0 ng o GU:=by
 intro call _ vals t nx K r hr h
 obtain ⟨v,rfl,k1⟩:=lG h (hr _)
 have fin:∀ v',K v' t nx=r→v'=v→((∃ id off,v = .ptr id off)∨∃ f a b,v = .fn f a b)→∃ v',K v' t nx=r∧QT P T w0 ng o [v] t nx v':=by
  intro v' hK e hsh
  subst e
  refine ⟨_,hK,fun g hp ρ w h1 h2 h3=>?_⟩
  have hx:=nD (x:=x) (by simp [ho,Op.operands]) h3
  refine ⟨ρ x,?_,hx⟩
  generalize hvx:ρ x=vx at hx
  rcases hsh with ⟨id,off,rfl⟩ | ⟨f,a,b,rfl⟩<;>cases hx<;>simp [execOp,ho,hvx]
 rcases abf k1 with ⟨id,off,rfl,k2⟩ | ⟨_,k2⟩
 ·exact fin _ k2 rfl (.inl ⟨_,_,rfl⟩)
 ·obtain ⟨f,a,b,rfl,k3⟩:=yg k2 (hr _)
  exact fin _ k3 rfl (.inr ⟨_,_,_,rfl⟩)
theorem zN {o:Oper} {x:Operand} {i:Nat} (ho:o.op = .extract x i):HQ P T w0 ng o (MZ i):=by
 intro call _ vals t nx K r hr h
 obtain ⟨v,rfl,k1⟩:=lG h (hr _)
 obtain ⟨vs,rfl,k2⟩:=abe k1 (hr _)
 obtain ⟨c,hc,hK⟩:=eU k2 (hr _)
 refine ⟨_,hK,fun g hp ρ w h1 h2 h3=>?_⟩
 have hx:=nD (x:=x) (by simp [ho,Op.operands]) h3
 generalize hvx:ρ x=vx at hx
 cases hx with
 | tup cs us g1 g2=>
   have hi:i<us.size:=by rw [g1];exact (List.getElem?_eq_some_iff.1 hc).1
   exact ⟨us[i],by simp [execOp,ho,hvx,Instr.extract,hi],g2 i _ _ hc (by simp [hi])⟩
theorem xB {o:Oper} {f:Nat} {first captured:Array Operand} (ho:o.op = .makeFunc (.func f) first captured):HQ P T w0 ng o (yT f first.toList.length):=by
 intro call _ vals t nx K r hr h
 unfold yT at h
 rw [kX,kX] at h
 refine ⟨_,h,fun g hp ρ w h1 h2 h3=>?_⟩
 simp only [ho,Op.operands,Array.toList_append,List.map_append] at h3
 refine ⟨.func (.func f) (first.map ρ) (captured.map ρ),by simp [execOp,ho,Instr.makeFunc],.fn _ _ _ _ _ ?_ (fun i c v hc hv=>?_) ?_ (fun i c v hc hv=>?_)⟩
 ·have:=h3.1;simp at this ⊢;omega
 ·have hi:i<first.size:=by have:=(Array.getElem?_eq_some_iff.1 hv).1;simpa using this
  rw [List.getElem?_take_of_lt (by simpa using hi)] at hc
  refine h3.2 i c v hc ?_
  rw [List.getElem?_append_left (by simpa using hi)]
  simpa [hi] using hv
 ·have:=h3.1;simp at this ⊢;omega
 ·have hi:i<captured.size:=by have:=(Array.getElem?_eq_some_iff.1 hv).1;simpa using this
  rw [List.getElem?_drop] at hc
  refine h3.2 _ c v hc ?_
  rw [List.getElem?_append_right (by simp)]
  simpa [hi] using hv
theorem MO {k:IntKind} {n:Int} (h:inR k n=true):k.wrap n=n:=by
 cases k<;>simp only [inR,Bool.false_eq_true] at h
 ·have:-9223372036854775808≤n∧n≤9223372036854775807:=by
   cases n with
   | ofNat m=>have:=aO.1 h;simp only [Int.ofNat_eq_natCast];omega
   | negSucc m=>have:=aO.1 h;omega
  exact Abs.zy this
 ·have:0≤n∧n<256:=by
   cases n with
   | ofNat m=>have:=aO.1 h;simp only [Int.ofNat_eq_natCast];omega
   | negSucc m=>exact absurd h (by simp)
  unfold IntKind.wrap
  simp [IntKind.bits,IntKind.signed]
  omega
 ·have:0≤n∧n<18446744073709551616:=by
   cases n with
   | ofNat m=>have:=aO.1 h;simp only [Int.ofNat_eq_natCast];omega
   | negSucc m=>exact absurd h (by simp)
  unfold IntKind.wrap
  simp [IntKind.bits,IntKind.signed]
  omega
theorem kY {R:Type} (k:IntKind) (n:Int) (K:Int→R):tV k n K=K (k.wrap n):=by
 unfold tV
 rw [aS,fQ,fQ]
 split
 ·rename_i h;rw [MO h]
 ·rfl
theorem o9 (a b:Int):ltI a b=decide (a<b):=by
 unfold ltI
 have e:Int.sub a b=a-b:=rfl
 rw [e]
 cases h:a-b with
 | ofNat m=>simp only [Int.ofNat_eq_natCast] at h;exact (decide_eq_false (by omega)).symm
 | negSucc m=>exact (decide_eq_true (by omega)).symm
theorem PY (a b:Int):eqI a b=(a==b):=by
 rw [Bool.eq_iff_iff,beq_iff_eq]
 cases a<;>cases b<;>simp [eqI]<;>omega
theorem X7 {b:Int} (h:isZ b≠true):b≠0:=by
 rintro rfl
 exact h rfl
theorem dJ {k k':IntKind} {x r:R} (h:dL k k' x=r) (hr:∀ n,R.bad n≠r):k=k'∧x=r:=by
 obtain ⟨h1,h2⟩:=aG h (hr _)
 exact ⟨kH h1,h2⟩
theorem ahQ {op:BinOp} {k k':IntKind} {a b:Int} {K:V→R} {r:R} (hr:∀ n,R.bad n≠r) (h:opI op k a k' b K=r) :
  ∃ x,K x=r∧∀ (g:Gh) (n t:Nat) (w:World),∃ v,(binOp op t (.int k a) (.int k' b)).run P w = .ok v w∧RV g n x v:=by
 cases op with
 | shl=>
   obtain ⟨s,rfl,hs,h'⟩:=jo h (hr _)
   rw [fQ] at h'
   refine ⟨_,h',fun g n t w=>⟨.int k (k.wrap (a*2 ^ (min s k.bits))),?_,?_⟩⟩
   ·have hb:¬ ((s:Int)<0):=by omega
    simp [binOp,Op.shift,hb]
   ·have e:Int.mul a (Int.ofNat (Nat.pow 2 (Nat.min s k.bits)))=a*2 ^ (min s k.bits):=by
     show a*((2 ^ (min s k.bits):Nat):Int)=_
     simp
    rw [e];exact .int _ _
 | shr=>
   obtain ⟨s,rfl,hs,h'⟩:=jo h (hr _)
   rw [fQ] at h'
   refine ⟨_,h',fun g n t w=>⟨.int k (a.fdiv (2 ^ (min s k.bits))),?_,?_⟩⟩
   ·have hb:¬ ((s:Int)<0):=by omega
    simp [binOp,Op.shift,hb]
   ·have e:Int.fdiv a (Int.ofNat (Nat.pow 2 (Nat.min s k.bits)))=a.fdiv (2 ^ (min s k.bits)):=by
     have e2:(Int.ofNat (Nat.pow 2 (Nat.min s k.bits)))=(2:Int) ^ (min s k.bits):=by
      show ((2 ^ (min s k.bits):Nat):Int)=_
      simp
     rw [e2]
    rw [e];exact .int _ _
 | add=>
   obtain ⟨rfl,h'⟩:=dJ h hr
   rw [kY] at h'
   exact ⟨_,h',fun g n t w=>⟨.int k (k.wrap (a+b)),by simp [binOp,Op.intArith],.int _ _⟩⟩
 | sub=>
   obtain ⟨rfl,h'⟩:=dJ h hr
   rw [kY] at h'
   exact ⟨_,h',fun g n t w=>⟨.int k (k.wrap (a-b)),by simp [binOp,Op.intArith],.int _ _⟩⟩
 | mul=>
   obtain ⟨rfl,h'⟩:=dJ h hr
   rw [kY] at h'
   exact ⟨_,h',fun g n t w=>⟨.int k (k.wrap (a*b)),by simp [binOp,Op.intArith],.int _ _⟩⟩
 | quo=>
   obtain ⟨rfl,h'⟩:=dJ h hr
   rw [aS] at h'
   split at h'
   ·exact absurd h' (hr _)
   ·rename_i hz
    rw [kY] at h'
    exact ⟨_,h',fun g n t w=>⟨.int k (k.wrap (a.tdiv b)),by simp [binOp,Op.intDiv,X7 hz],.int _ _⟩⟩
 | rem=>
   obtain ⟨rfl,h'⟩:=dJ h hr
   rw [aS] at h'
   split at h'
   ·exact absurd h' (hr _)
   ·rename_i hz
    rw [fQ] at h'
    exact ⟨_,h',fun g n t w=>⟨.int k (a.tmod b),by simp [binOp,Op.intDiv,X7 hz],.int _ _⟩⟩
 | and=>
   obtain ⟨rfl,h'⟩:=dJ h hr
   rw [fQ] at h'
   exact ⟨_,h',fun g n t w=>⟨.int k (Abs.bitsOf .and k a b),by simp [binOp,Op.intBits,Abs.bitsOf],.int _ _⟩⟩
 | or=>
   obtain ⟨rfl,h'⟩:=dJ h hr
   rw [fQ] at h'
   exact ⟨_,h',fun g n t w=>⟨.int k (Abs.bitsOf .or k a b),by simp [binOp,Op.intBits,Abs.bitsOf],.int _ _⟩⟩
 | xor=>
   obtain ⟨rfl,h'⟩:=dJ h hr
   rw [fQ] at h'
   exact ⟨_,h',fun g n t w=>⟨.int k (Abs.bitsOf .xor k a b),by simp [binOp,Op.intBits,Abs.bitsOf],.int _ _⟩⟩
 | andNot=>
   obtain ⟨rfl,h'⟩:=dJ h hr
   rw [fQ] at h'
   exact ⟨_,h',fun g n t w=>⟨.int k (Abs.bitsOf .andNot k a b),by simp [binOp,Op.intBits,Abs.bitsOf],.int _ _⟩⟩
 | eql=>
   obtain ⟨rfl,h'⟩:=dJ h hr
   rw [bF,PY] at h'
   exact ⟨_,h',fun g n t w=>⟨.bool (a==b),by simp [binOp,Op.intCmp],.bool _⟩⟩
 | neq=>
   obtain ⟨rfl,h'⟩:=dJ h hr
   rw [bF,PY] at h'
   exact ⟨_,h',fun g n t w=>⟨.bool (a != b),by simp [binOp,Op.intCmp],.bool _⟩⟩
 | lss=>
   obtain ⟨rfl,h'⟩:=dJ h hr
   rw [bF,o9] at h'
   exact ⟨_,h',fun g n t w=>⟨.bool (decide (a<b)),by simp [binOp,Op.intCmp],.bool _⟩⟩
 | leq=>
   obtain ⟨rfl,h'⟩:=dJ h hr
   rw [bF,o9] at h'
   refine ⟨_,h',fun g n t w=>⟨.bool (decide (a≤b)),by simp [binOp,Op.intCmp],?_⟩⟩
   have e:decide (a≤b)=!decide (b<a):=by rw [Bool.eq_iff_iff];simp
   rw [e];exact .bool _
 | gtr=>
   obtain ⟨rfl,h'⟩:=dJ h hr
   rw [bF,o9] at h'
   exact ⟨_,h',fun g n t w=>⟨.bool (decide (a>b)),by simp [binOp,Op.intCmp],.bool _⟩⟩
 | geq=>
   obtain ⟨rfl,h'⟩:=dJ h hr
   rw [bF,o9] at h'
   refine ⟨_,h',fun g n t w=>⟨.bool (decide (a≥b)),by simp [binOp,Op.intCmp],?_⟩⟩
   have e:decide (a≥b)=!decide (a<b):=by rw [Bool.eq_iff_iff];simp
   rw [e];exact .bool _
theorem ahP {op:BinOp} {s s':List UInt8} {K:V→R} {r:R} (hr:∀ n,R.bad n≠r) (h:opS op s.length (aU s) s'.length (aU s') K=r) :
  ∃ x,K x=r∧∀ (g:Gh) (n t:Nat) (w:World),∃ v,(binOp op t (.string ⟨s.toArray⟩) (.string ⟨s'.toArray⟩)).run P w = .ok v w∧RV g n x v:=by
 have ea:(⟨s.toArray⟩:ByteArray).toList=s:=by rw [ByteArray.toList_eq]
 have eb:(⟨s'.toArray⟩:ByteArray).toList=s':=by rw [ByteArray.toList_eq]
 cases op with
 | add=>
   unfold opS at h
   simp only [aH] at h
   obtain ⟨h1,h'⟩:=aG h (hr _)
   have h1':s.length+s'.length≤9223372036854775807:=aX.1 h1
   refine ⟨_,h',fun g n t w=>⟨.string ⟨(s++s').toArray⟩,?_,?_⟩⟩
   ·have e:(⟨s.toArray⟩:ByteArray)++⟨s'.toArray⟩=⟨(s++s').toArray⟩:=by
     apply ByteArray.ext;simp
    have hn:¬ ((9223372036854775807:Int)<((⟨s.toArray⟩:ByteArray).size+(⟨s'.toArray⟩:ByteArray).size:Int)):=by
     simp [ByteArray.size];omega
    have hm:IntKind.i64.max=9223372036854775807:=by decide
    simp [binOp,Op.stringOp,e,hm,hn]
   ·have e1:Nat.add s.length s'.length=(s++s').length:=by simp
    have e2:Nat.add (Nat.shiftLeft (aU s) (Nat.mul 8 s'.length)) (aU s')=aU (s++s'):=by
     rw [dU]
     show Nat.shiftLeft (aU s) (8*s'.length)+aU s'=_
     rw [show Nat.shiftLeft (aU s) (8*s'.length)=aU s*2 ^ (8*s'.length) from Nat.shiftLeft_eq _ _]
    rw [e1,e2]
    exact .str _ (by simpa using h1')
 | eql=>
   simp only [opS,bF,wB] at h
   exact ⟨_,h,fun g n t w=>⟨.bool (s==s'),by simp [binOp,Op.stringOp,ea,eb],.bool _⟩⟩
 | neq=>
   simp only [opS,bF,wB] at h
   exact ⟨_,h,fun g n t w=>⟨.bool (!(s==s')),by simp [binOp,Op.stringOp,ea,eb],.bool _⟩⟩
 | lss=>
   simp only [opS,bF,oh] at h
   exact ⟨_,h,fun g n t w=>⟨.bool (Op.bytesLess s s'),by simp [binOp,Op.stringOp,ea,eb],.bool _⟩⟩
 | leq=>
   simp only [opS,bF,oh] at h
   rw [← qh] at h
   exact ⟨_,h,fun g n t w=>⟨.bool (Op.bytesLess s s'||s==s'),by simp [binOp,Op.stringOp,ea,eb],.bool _⟩⟩
 | gtr=>
   simp only [opS,bF,oh] at h
   refine ⟨_,h,fun g n t w=>⟨.bool (!(Op.bytesLess s s'||s==s')),by simp [binOp,Op.stringOp,ea,eb],?_⟩⟩
   rw [qh,Bool.not_not];exact .bool _
 | geq=>
   simp only [opS,bF,oh] at h
   exact ⟨_,h,fun g n t w=>⟨.bool (!Op.bytesLess s s'),by simp [binOp,Op.stringOp,ea,eb],.bool _⟩⟩
 | _=>exact absurd h (hr _)
theorem OY {op:BinOp} {b:Bool} {K:V→R} {r:R} (hr:∀ n,R.bad n≠r) (h:opE op b K=r) :
  (op = .eql∧K (.bool b)=r)∨(op = .neq∧K (.bool (!b))=r):=by
 cases op<;>simp only [opE,bF] at h<;>first | exact .inl ⟨rfl,h⟩ | exact .inr ⟨rfl,h⟩ | exact absurd h (hr _)
end
end Go.Sim
namespace Go.Sim
open Go Go.RowKit
open Go.Abs (TE TK SK TOK TFacts D RdD)
inductive PD:V→D→Prop
 | bool (b:Bool):PD (.bool b) (.bool b)
 | int (k:IntKind) (n:Int):PD (.int k n) (.int k n)
 | str (s:List UInt8):PD (.str s.length (aU s)) (.str s)
theorem akA {g:Gh} {n:Nat} {c:V} {u:Value} {k:SK} (h:RV g n c u) (hf:iC k c=true):∃ d,PD c d∧Abs.iC k d=true∧D.one d=true∧u.oneCell'=true∧∀ (ok:Nat→Prop) (w:World),RdD ok w u d:=by
 cases h<;>cases k<;>try (exfalso;simp [iC] at hf;done)
 ·exact ⟨_,.bool _,rfl,rfl,rfl,fun _ _ => .bool _⟩
 ·rename_i k1 m k2
  have e:=kH hf
  subst e
  refine ⟨_,.int _ _,?_,rfl,rfl,fun _ _ => .int _ _⟩
  cases k2<;>rfl
 ·rename_i s hs
  exact ⟨_,.str s,rfl,rfl,rfl,fun _ _ => .str s hs⟩
theorem ahL {a b:V} {x y:D} (ha:PD a x) (hb:PD b y):eq1 a b=Abs.eq1 x y:=by
 cases ha<;>cases hb<;>try rfl
 ·rename_i a b;cases a<;>cases b<;>rfl
 ·exact PY _ _
 ·exact wB _ _
inductive PDs:List V→List D→Prop
 | nil:PDs [] []
 | cons {c:V} {d:D} {cs:List V} {ds:List D}:PD c d→PDs cs ds→PDs (c::cs) (d::ds)
theorem PDs.length_eq {cs:List V} {ds:List D} (h:PDs cs ds):cs.length=ds.length:=by
 induction h with
 | nil=>rfl
 | cons _ _ ih=>simp [ih]
theorem Ce {g:Gh} {n:Nat}:∀ {ks:List SK} {cs:List V} {us:List Value},fits ks cs=true→RVL g n cs us →
  ∃ ds:List D,PDs cs ds∧Abs.fK ks ds=true∧ds.length=us.length∧∀ (i:Nat) u d,us[i]?=some u→ds[i]?=some d→D.one d=true∧u.oneCell'=true∧∀ (ok:Nat→Prop) (w:World),RdD ok w u d
 | [],[],us,_,hl=>by
   have:=hl.iI
   subst this
   exact ⟨[],.nil,rfl,rfl,fun i u d h=>by simp at h⟩
 | [],_::_,_,h,_=>absurd h (by simp [fits])
 | _::_,[],_,h,_=>absurd h (by simp [fits])
 | k::ks,c::cs,us,h,hl=>by
   obtain ⟨u,us',rfl,hu,hl'⟩:=hl.inv
   obtain ⟨h1,h2⟩:=aB h
   obtain ⟨d,g1,g2,g3,g4,g5⟩:=akA hu h1
   obtain ⟨ds,e1,e2,e3,e4⟩:=Ce h2 hl'
   refine ⟨d::ds,.cons g1 e1,by simp [Abs.fK,g2,e2],by simp [e3],fun i u' d' hu' hd'=>?_⟩
   cases i with
   | zero=>simp at hu' hd';subst hu';subst hd';exact ⟨g3,g4,g5⟩
   | succ i=>simp at hu' hd';exact e4 i u' d' hu' hd'
theorem IL:∀ {as bs:List V} {xs ys:List D},PDs as xs→PDs bs ys→as.length=bs.length→acI as bs=Abs.aW xs ys
 | [],[],_,_,.nil,.nil,_=>rfl
 | a::as,b::bs,_,_,.cons h1 t1,.cons h2 t2,hl=>by
   have hl':as.length=bs.length:=by simpa using hl
   rw [Abs.kM _ _ _ _ (by rw [← t1.length_eq,← t2.length_eq];exact hl'),← ahL h1 h2,← IL t1 t2 hl']
   show and (eq1 a b) (acI as bs)=_
   cases eq1 a b<;>rfl
theorem DR:∀ {ks:List SK} {cs:List V},fits ks cs=true→cs.length=ks.length
 | [],[],_=>rfl
 | [],_::_,h=>absurd h (by simp [fits])
 | _::_,[],h=>absurd h (by simp [fits])
 | k::ks,c::cs,h=>by simp [DR (aB h).2]
section
variable {P:Program} {T:Nat→TE} {w0:World} {ng:Nat}
theorem Bq (hT:TOK P T) {t:Nat} {k:TK} (hk:(T t).k=k) (hn:k ≠ .none):∃ d i,TFacts P t (T t) d i∧k=Abs.kOf P d:=by
 obtain ⟨d,i,hf⟩:=hT.facts (t:=t) (by rw [hk];exact hn)
 exact ⟨d,i,hf,by rw [← hk];exact hf.k⟩
theorem wu (hT:TOK P T) {t e:Nat} (hk:(T t).k = .slc e):P.underlying t=some (.slice e):=hT.slc hk
theorem rQ (hT:TOK P T) {t:Nat} (hk:(T t).k = .str):P.underlying t=some .string:=by
 obtain ⟨d,i,hf,hd⟩:=Bq hT hk (by simp)
 rw [← Abs.jB.2.1 hd.symm];exact hf.und
theorem Iq (hT:TOK P T) {t k e:Nat} (hk:(T t).k = .map k e):P.underlying t=some (.map k e):=by
 obtain ⟨d,i,hf,hd⟩:=Bq hT hk (by simp)
 rw [← Abs.jB.2.2.2.2.2 _ _ hd.symm];exact hf.und
theorem AO (hT:TOK P T) {t n e:Nat} (hk:(T t).k = .arr n e):P.underlying t=some (.array n e):=by
 obtain ⟨d,i,hf,hd⟩:=Bq hT hk (by simp)
 cases d
 case array n' e'=>
  simp only [Abs.kOf] at hd
  split at hd
  ·cases hd;exact hf.und
  ·cases hd
 case struct fs=>simp only [Abs.kOf] at hd;split at hd<;>cases hd
 all_goals exact absurd hd (by simp [Abs.kOf])
theorem VZ (hT:TOK P T) {t:Nat} (hk:(T t).k = .fn):∃ a b c,P.underlying t=some (.func a b c):=by
 obtain ⟨d,i,hf,hd⟩:=Bq hT hk (by simp)
 cases d
 case array n' e'=>simp only [Abs.kOf] at hd;split at hd<;>cases hd
 case struct fs=>simp only [Abs.kOf] at hd;split at hd<;>cases hd
 case func a b c=>exact ⟨_,_,_,hf.und⟩
 all_goals exact absurd hd (by simp [Abs.kOf])
theorem X0 {k:TK} (h:X3 k=true):k = .bool:=by cases k<;>first | rfl | exact absurd h (by simp [X3])
theorem RX {k:TK} (h:acj k=true):k = .ptr:=by cases k<;>first | rfl | exact absurd h (by simp [acj])
theorem RU {k:TK} (h:aci k=true):∃ e,k = .slc e:=by cases k<;>first | exact ⟨_,rfl⟩ | exact absurd h (by simp [aci])
theorem RY {k:TK} (h:acn k=true):∃ a b,k = .map a b:=by cases k<;>first | exact ⟨_,_,rfl⟩ | exact absurd h (by simp [acn])
theorem XZ {k:TK} (h:kFn k=true):k = .fn:=by cases k<;>first | rfl | exact absurd h (by simp [kFn])
theorem ab6 {b:V} {p q:V→Bool} {E:Bool→(V→R)→R} {K:V→R} {r:R} (hr:∀ n,R.bad n≠r) (h:CV b p q E K=r):(p b=true∧E true K=r)∨(q b=true∧E false K=r):=by
 unfold CV at h
 rw [aS,aS] at h
 split at h
 ·exact .inl ⟨‹_›,h⟩
 ·split at h
  ·exact .inr ⟨‹_›,h⟩
  ·exact absurd h (hr _)
def agJ (op:BinOp) (b:Bool):V:=match op with | .eql => .bool b | _ => .bool (!b)
theorem Ak (n0:Nat) {t e:Nat} (hu:P.underlying t=some (.slice e)) (w:World) (a b:Option Addr) (n c m d:Nat) (h0:a=none∨b=none):(Op.equalIn (n0+1) t (.slice a n c) (.slice b m d)).run P w = .ok (a.isNone&&b.isNone) w:=by
 cases a with
 | none=>simp [Op.equalIn,run_underlying hu]
 | some a=>cases b with
   | none=>simp [Op.equalIn,run_underlying hu]
   | some b=>simp at h0
theorem nH {t e:Nat} (hu:P.underlying t=some (.slice e)) (w:World) (a b:Option Addr) (n c m d:Nat) (h0:a=none∨b=none):(Op.equal t (.slice a n c) (.slice b m d)).run P w = .ok (a.isNone&&b.isNone) w:=Ak 9999 hu w a b n c m d h0
theorem Ap (n0:Nat) {t e k:Nat} (hu:P.underlying t=some (.map k e)) (w:World) (a b:Option Nat) (h0:a=none∨b=none):(Op.equalIn (n0+1) t (.map a) (.map b)).run P w = .ok (a.isNone&&b.isNone) w:=by
 cases a with
 | none=>simp [Op.equalIn,run_underlying hu]
 | some a=>cases b with
   | none=>simp [Op.equalIn,run_underlying hu]
   | some b=>simp at h0
theorem nI {t e k:Nat} (hu:P.underlying t=some (.map k e)) (w:World) (a b:Option Nat) (h0:a=none∨b=none):(Op.equal t (.map a) (.map b)).run P w = .ok (a.isNone&&b.isNone) w:=Ap 9999 hu w a b h0
theorem BM (n0:Nat) {t:Nat} {a b:Array TypeId} {c:Bool} (hu:P.underlying t=some (.func a b c)) (w:World):(Op.equalIn (n0+1) t .nilFunc .nilFunc).run P w = .ok true w:=by
 simp [Op.equalIn,run_underlying hu]
theorem Iz {t:Nat} {a b:Array TypeId} {c:Bool} (hu:P.underlying t=some (.func a b c)) (w:World):(Op.equal t .nilFunc .nilFunc).run P w = .ok true w:=BM 9999 hu w
theorem BN (n0:Nat) {t:Nat} {a b:Array TypeId} {c:Bool} (hu:P.underlying t=some (.func a b c)) (w:World) (f:Fn) (x y:Array Value):(Op.equalIn (n0+1) t .nilFunc (.func f x y)).run P w = .ok false w:=by
 simp [Op.equalIn,run_underlying hu]
theorem IB {t:Nat} {a b:Array TypeId} {c:Bool} (hu:P.underlying t=some (.func a b c)) (w:World) (f:Fn) (x y:Array Value):(Op.equal t .nilFunc (.func f x y)).run P w = .ok false w:=BN 9999 hu w f x y
theorem BO (n0:Nat) {t:Nat} {a b:Array TypeId} {c:Bool} (hu:P.underlying t=some (.func a b c)) (w:World) (f:Fn) (x y:Array Value):(Op.equalIn (n0+1) t (.func f x y) .nilFunc).run P w = .ok false w:=by
 simp [Op.equalIn,run_underlying hu]
theorem IE {t:Nat} {a b:Array TypeId} {c:Bool} (hu:P.underlying t=some (.func a b c)) (w:World) (f:Fn) (x y:Array Value):(Op.equal t (.func f x y) .nilFunc).run P w = .ok false w:=BO 9999 hu w f x y
theorem aj0 {op:BinOp} {t:Nat} {va vb:Value} {b:Bool} {K:V→R} {r:R} (hr:∀ n,R.bad n≠r) (h:opE op b K=r) (w:World) (ox oy:Operand) (hg:∀ op,(eqGuard op t ox oy va vb).run P w = .ok () w)
  (he:(Op.equal t va vb).run P w = .ok b w) (h1:binOp .eql t va vb=do pure (.bool (← Op.equal t va vb))) (h2:binOp .neq t va vb=do pure (.bool (!(← Op.equal t va vb)))) :
  ∃ v,(do eqGuard op t ox oy va vb;binOp op t va vb).run P w = .ok v w∧∀ (g:Gh) (n:Nat),RV g n (agJ op b) v:=by
 rcases OY hr h with ⟨rfl,_⟩ | ⟨rfl,_⟩
 ·exact ⟨.bool b,by simp [hg,h1,he],fun g n => .bool _⟩
 ·exact ⟨.bool (!b),by simp [hg,h2,he],fun g n => .bool _⟩
theorem SE (hT:TOK P T) {o:Oper} {op:BinOp} {t ty:Nat} {x y:Operand} (ho:o.op = .binOp op t x y ty):HQ P T w0 ng o (akV op t):=by
 intro call _ vals hh nx K r hr h
 obtain ⟨a,b,rfl,k1⟩:=mV h (hr _)
 suffices H:∃ v,K v hh nx=r∧∀ (g:Gh) (w:World) (va vb:Value),RV g nx.num a va→RV g nx.num b vb→∃ v',(do eqGuard op t x y va vb;binOp op t va vb).run P w = .ok v' w∧RV g nx.num v v' by
  obtain ⟨v,hK,hv⟩:=H
  refine ⟨v,hK,fun g hp ρ w h1 h2 h3=>?_⟩
  obtain ⟨e1,e2⟩:=qE (x:=x) (y:=y) (by simp [ho,Op.operands]) h3
  obtain ⟨v',g1,g2⟩:=hv g w _ _ e1 e2
  exact ⟨v',by simp only [execOp,ho];rw [Sem.run_bind,g1];rfl,g2⟩
 have eqv:∀ (bb:Bool),opE op bb (fun v=>K v hh nx)=r→(∀ (g:Gh) (w:World) (va vb:Value),RV g nx.num a va→RV g nx.num b vb→(∀ op,(eqGuard op t x y va vb).run P w = .ok () w)∧(Op.equal t va vb).run P w = .ok bb w ∧
   binOp .eql t va vb=(do pure (.bool (← Op.equal t va vb)))∧binOp .neq t va vb=(do pure (.bool (!(← Op.equal t va vb))))) →
   ∃ v,K v hh nx=r∧∀ (g:Gh) (w:World) (va vb:Value),RV g nx.num a va→RV g nx.num b vb→∃ v',(do eqGuard op t x y va vb;binOp op t va vb).run P w = .ok v' w∧RV g nx.num v v':=by
  intro bb hE hrun
  refine ⟨agJ op bb,?_,fun g w va vb ha hb=>?_⟩
  ·rcases OY hr hE with ⟨rfl,e⟩ | ⟨rfl,e⟩<;>exact e
  ·obtain ⟨q1,q2,q3,q4⟩:=hrun g w va vb ha hb
   obtain ⟨v',g1,g2⟩:=aj0 hr hE w x y q1 q2 q3 q4
   exact ⟨v',g1,g2 g nx.num⟩
 have nilc:∀ (p q:V→Bool),CV b p q (opE op) (fun v=>K v hh nx)=r →
   (∀ (bb:Bool),(if bb then p b else q b)=true→∀ (g:Gh) (w:World) (va vb:Value),RV g nx.num a va→RV g nx.num b vb→(∀ op,(eqGuard op t x y va vb).run P w = .ok () w)∧(Op.equal t va vb).run P w = .ok bb w ∧
    binOp .eql t va vb=(do pure (.bool (← Op.equal t va vb)))∧binOp .neq t va vb=(do pure (.bool (!(← Op.equal t va vb))))) →
   ∃ v,K v hh nx=r∧∀ (g:Gh) (w:World) (va vb:Value),RV g nx.num a va→RV g nx.num b vb→∃ v',(do eqGuard op t x y va vb;binOp op t va vb).run P w = .ok v' w∧RV g nx.num v v':=by
  intro p q hn hrun
  rcases ab6 hr hn with ⟨e1,e2⟩ | ⟨e1,e2⟩
  ·exact eqv true e2 (hrun true e1)
  ·exact eqv false e2 (hrun false e1)
 cases a with
 | int k n=>
   obtain ⟨k',m,rfl,k2⟩:=dF k1 (hr _)
   obtain ⟨v,hK,hv⟩:=ahQ (P:=P) hr k2
   refine ⟨v,hK,fun g w va vb ha hb=>?_⟩
   cases ha;cases hb
   obtain ⟨v',g1,g2⟩:=hv g nx.num t w
   exact ⟨v',by simp [Abs.pW,g1],g2⟩
 | str l n=>
   obtain ⟨l',n',rfl,k2⟩:=fM k1 (hr _)
   by_cases hs:∃ s s':List UInt8,l=s.length∧n=aU s∧l'=s'.length∧n'=aU s'
   ·obtain ⟨s,s',rfl,rfl,rfl,rfl⟩:=hs
    obtain ⟨v,hK,hv⟩:=ahP (P:=P) hr k2
    refine ⟨v,hK,fun g w va vb ha hb=>?_⟩
    have ea:va = .string ⟨s.toArray⟩:=by
     generalize hl:s.length=l at ha
     generalize hn:aU s=n at ha
     cases ha with
     | str s2 _=>rw [nX hl.symm hn.symm]
    have eb:vb = .string ⟨s'.toArray⟩:=by
     generalize hl:s'.length=l at hb
     generalize hn:aU s'=n at hb
     cases hb with
     | str s2 _=>rw [nX hl.symm hn.symm]
    subst ea;subst eb
    obtain ⟨v',g1,g2⟩:=hv g nx.num t w
    exact ⟨v',by simp [Abs.pV,g1],g2⟩
   ·
    have:∃ v,K v hh nx=r:=by
     cases op<;>simp only [opS,bF,aH] at k2<;>first | exact ⟨_,k2⟩ | exact ⟨_,(aG k2 (hr _)).2⟩ | exact absurd k2 (hr _)
    obtain ⟨v,hK⟩:=this
    refine ⟨v,hK,fun g w va vb ha hb=>?_⟩
    cases ha;cases hb
    exact absurd ⟨_,_,rfl,rfl,rfl,rfl⟩ hs
 | bool c=>
   obtain ⟨k0,k2⟩:=aG k1 (hr _)
   obtain ⟨d,rfl,k3⟩:=tq k2 (hr _)
   have hk:=X0 k0
   have e:tK c d=(c==d):=by cases c<;>cases d<;>rfl
   rw [e] at k3
   refine eqv _ k3 fun g w va vb ha hb=>?_
   cases ha;cases hb
   exact ⟨fun op=>Abs.jk op t x y c d,Abs.run_equal_bool hT hk c d,rfl,rfl⟩
 | agg cs=>
   obtain ⟨ds,rfl,k2⟩:=oV k1 (hr _)
   obtain ⟨k3,k4⟩:=aG k2 (hr _)
   obtain ⟨k5,k6⟩:=aB k3
   obtain ⟨k7,k8⟩:=aB k5
   obtain ⟨k9,k10⟩:=aB k6
   rw [bF] at k4
   rcases OY hr k4 with ⟨rfl,e⟩ | ⟨rfl,e⟩
   all_goals
    refine ⟨_,e,fun g w va vb ha hb=>?_⟩
    cases ha with
    | agg _ us a1 a2 a3=>cases hb with
      | agg _ zs b1 b2 b3=>
        obtain ⟨xs,p1,p2,p3,p4⟩:=Ce (us:=us.toList) k9 ⟨by simpa using a1,fun i c v hc hv=>a2 i c v hc (by simpa using hv)⟩
        obtain ⟨ys,q1,q2,q3,q4⟩:=Ce (us:=zs.toList) k10 ⟨by simpa using b1,fun i c v hc hv=>b2 i c v hc (by simpa using hv)⟩
        have hx:RdD (fun _=>False) w (.agg us) (.agg xs) := .agg _ _ (by rw [p3];simp) (fun i v c hv hc=>(p4 i v c (by simpa using hv) hc).2.2 _ _) (fun i v c hv hc=>⟨(p4 i v c (by simpa using hv) hc).2.1,(p4 i v c (by simpa using hv) hc).1⟩)
        have hy:RdD (fun _=>False) w (.agg zs) (.agg ys) := .agg _ _ (by rw [q3];simp) (fun i v c hv hc=>(q4 i v c (by simpa using hv) hc).2.2 _ _) (fun i v c hv hc=>⟨(q4 i v c (by simpa using hv) hc).2.1,(q4 i v c (by simpa using hv) hc).1⟩)
        have hl:cs.length=ds.length:=(DR k9).trans (DR k10).symm
        first
        | (obtain ⟨d,hd,hrun⟩:=Abs.uX (P:=P) hT (op := .eql) (t:=t) k7 (x := .agg xs) (y := .agg ys) (K:=fun d=>d = .bool (Abs.aW xs ys)) (by simp [Abs.KF,Abs.asAgg,Abs.bD,k8,p2,q2,Abs.UC]) x y
           subst hd
           obtain ⟨v,g1,g2⟩:=hrun _ w _ _ hx hy
           refine ⟨v,g1,?_⟩
           cases g2
           rw [IL p1 q1 hl];exact .bool _)
        | (obtain ⟨d,hd,hrun⟩:=Abs.uX (P:=P) hT (op := .neq) (t:=t) k7 (x := .agg xs) (y := .agg ys) (K:=fun d=>d = .bool (!Abs.aW xs ys)) (by simp [Abs.KF,Abs.asAgg,Abs.bD,k8,p2,q2,Abs.UC]) x y
           subst hd
           obtain ⟨v,g1,g2⟩:=hrun _ w _ _ hx hy
           refine ⟨v,g1,?_⟩
           cases g2
           rw [IL p1 q1 hl];exact .bool _)
 | dN=>
   obtain ⟨k0,k2⟩:=aG k1 (hr _)
   have hk:=RX k0
   refine nilc _ _ k2 fun bb hb0 g w va vb ha hb=>?_
   cases ha
   cases bb<;>cases b<;>try (exfalso;simp [QH,akB] at hb0;done)
   ·cases hb;exact ⟨fun op=>Abs.dS op t x y _ _,Abs.iE hT hk _ _ (.inl rfl),rfl,rfl⟩
   ·cases hb;exact ⟨fun op=>Abs.dS op t x y _ _,Abs.iE hT hk _ _ (.inl rfl),rfl,rfl⟩
 | ptr id off=>
   obtain ⟨k0,k2⟩:=aG k1 (hr _)
   have hk:=RX k0
   refine nilc _ _ k2 fun bb hb0 g w va vb ha hb=>?_
   cases ha
   cases bb<;>cases b<;>try (exfalso;simp [QH,pNo] at hb0;done)
   cases hb;exact ⟨fun op=>Abs.dS op t x y _ _,Abs.iE hT hk _ _ (.inr rfl),rfl,rfl⟩
 | aj=>
   obtain ⟨k0,k2⟩:=aG k1 (hr _)
   obtain ⟨e,hk⟩:=RU k0
   have hu:=wu hT hk
   refine nilc _ _ k2 fun bb hb0 g w va vb ha hb=>?_
   cases ha
   cases bb<;>cases b<;>try (exfalso;simp [QG,pSl] at hb0;done)
   ·rename_i id sz off len cap
    have hlen:0<len:=aO.1 hb0
    cases hb with
    | sl _ _ _ _ _ a c i1 i2 i3 i4 i5 i6 i7=>
      have:=i7 (by omega)
      subst this
      exact ⟨fun op=>by cases op<;>rfl,nH hu w _ _ _ _ _ _ (.inl rfl),rfl,rfl⟩
   ·cases hb;exact ⟨fun op=>by cases op<;>rfl,nH hu w _ _ _ _ _ _ (.inl rfl),rfl,rfl⟩
 | sl id sz off len cap=>
   obtain ⟨k0,k2⟩:=aG k1 (hr _)
   obtain ⟨k00,k01⟩:=aB k0
   obtain ⟨e,hk⟩:=RU k00
   have hlen:0<len:=aO.1 k01
   have hu:=wu hT hk
   refine nilc _ _ k2 fun bb hb0 g w va vb ha hb=>?_
   cases ha with
   | sl _ _ _ _ _ a c i1 i2 i3 i4 i5 i6 i7=>
     have:=i7 (by omega)
     subst this
     cases bb<;>cases b<;>try (exfalso;simp [QG,pNo] at hb0;done)
     cases hb;exact ⟨fun op=>by cases op<;>rfl,nH hu w _ _ _ _ _ _ (.inr rfl),rfl,rfl⟩
 | iw=>
   obtain ⟨k0,k2⟩:=aG k1 (hr _)
   obtain ⟨e,e',hk⟩:=RY k0
   have hu:=Iq hT hk
   refine nilc _ _ k2 fun bb hb0 g w va vb ha hb=>?_
   cases ha
   cases bb<;>cases b<;>try (exfalso;simp [QI,akC] at hb0;done)
   ·cases hb;exact ⟨fun op=>by cases op<;>rfl,nI hu w _ _ (.inl rfl),rfl,rfl⟩
   ·cases hb;exact ⟨fun op=>by cases op<;>rfl,nI hu w _ _ (.inl rfl),rfl,rfl⟩
 | map id=>
   obtain ⟨k0,k2⟩:=aG k1 (hr _)
   obtain ⟨e,e',hk⟩:=RY k0
   have hu:=Iq hT hk
   refine nilc _ _ k2 fun bb hb0 g w va vb ha hb=>?_
   cases ha
   cases bb<;>cases b<;>try (exfalso;simp [QI,pNo] at hb0;done)
   cases hb;exact ⟨fun op=>by cases op<;>rfl,nI hu w _ _ (.inr rfl),rfl,rfl⟩
 | iF=>
   obtain ⟨k0,k2⟩:=aG k1 (hr _)
   obtain ⟨e,e',e'',hu⟩:=VZ hT (XZ k0)
   refine nilc _ _ k2 fun bb hb0 g w va vb ha hb=>?_
   cases ha
   cases bb<;>cases b<;>try (exfalso;simp [QJ,pFn] at hb0;done)
   ·cases hb;exact ⟨fun op=>by cases op<;>rfl,IB hu w _ _ _,rfl,rfl⟩
   ·cases hb;exact ⟨fun op=>by cases op<;>rfl,Iz hu w,rfl,rfl⟩
 | fn f fs cs=>
   obtain ⟨k0,k2⟩:=aG k1 (hr _)
   obtain ⟨e,e',e'',hu⟩:=VZ hT (XZ k0)
   refine nilc _ _ k2 fun bb hb0 g w va vb ha hb=>?_
   cases ha
   cases bb<;>cases b<;>try (exfalso;simp [QJ,pNo] at hb0;done)
   cases hb;exact ⟨fun op=>by cases op<;>rfl,IE hu w _ _ _,rfl,rfl⟩
 | _=>exact absurd k1 (hr _)
end
end Go.Sim
namespace Go.Sim
open Go Go.RowKit
open Go.Abs (TE TK SK TOK TFacts)
section
variable {P:Program} {T:Nat→TE} {w0:World} {ng:Nat}
theorem YG {o:Oper} {op:UnOp} {t:Nat} {x:Operand} (ho:o.op = .unOp op t x):HQ P T w0 ng o (hUn op):=by
 intro call _ vals hh nx K r hr h
 obtain ⟨v,rfl,k1⟩:=lG h (hr _)
 cases op<;>simp only [opU] at k1<;>try exact absurd k1 (hr _)
 ·obtain ⟨k,n,rfl,k2⟩:=dF k1 (hr _)
  rw [kY] at k2
  refine ⟨_,k2,fun g hp ρ w h1 h2 h3=>?_⟩
  have hx:=nD (x:=x) (by simp [ho,Op.operands]) h3
  generalize hvx:ρ x=vx at hx
  cases hx
  exact ⟨.int k (k.wrap (0-n)),by simp [execOp,ho,hvx,Op.unary,Op.intArith],.int _ _⟩
 ·obtain ⟨b,rfl,k2⟩:=tq k1 (hr _)
  rw [bF] at k2
  refine ⟨_,k2,fun g hp ρ w h1 h2 h3=>?_⟩
  have hx:=nD (x:=x) (by simp [ho,Op.operands]) h3
  generalize hvx:ρ x=vx at hx
  cases hx
  exact ⟨.bool (!b),by simp [execOp,ho,hvx,Op.unary],.bool _⟩
theorem Na (hT:TOK P T) {o:Oper} {src dst:Nat} {x:Operand} (ho:o.op = .convert src dst x):HQ P T w0 ng o (adQ src dst):=by
 intro call _ vals hh nx K r hr h
 obtain ⟨v,rfl,k1⟩:=lG h (hr _)
 cases h1:(T src).k<;>cases h2:(T dst).k<;>rw [h1,h2] at k1<;>simp only [ahl] at k1<;>try exact absurd k1 (hr _)
 ·rename_i k1' k2'
  obtain ⟨k,n,rfl,k2⟩:=dF k1 (hr _)
  rw [kY] at k2
  refine ⟨_,k2,fun g hp ρ w g1 g2 g3=>?_⟩
  have hx:=nD (x:=x) (by simp [ho,Op.operands]) g3
  generalize hvx:ρ x=vx at hx
  cases hx
  exact ⟨.int k2' (k2'.wrap n),by simp [execOp,ho,hvx,convert,run_underlying (hT.int h1),run_underlying (hT.int h2),Conv.intToInt],.int _ _⟩
 ·obtain ⟨l,n,rfl,k2⟩:=fM k1 (hr _)
  refine ⟨_,k2,fun g hp ρ w g1 g2 g3=>?_⟩
  have hx:=nD (x:=x) (by simp [ho,Op.operands]) g3
  refine ⟨ρ x,?_,hx⟩
  generalize hvx:ρ x=vx at hx
  cases hx
  simp [execOp,ho,hvx,convert,run_underlying (rQ hT h1),run_underlying (rQ hT h2)]
theorem AY {o:Oper} {mx:Bool} {x y:Operand} {ts:Array Nat} (ho:o.op = .call { callee := .builtin (if mx then .max else .min),args:=#[x,y],argTypes:=ts }):HQ P T w0 ng o (ail mx):=by
 intro call _ vals hh nx K r hr h
 obtain ⟨a,b,rfl,k1⟩:=mV h (hr _)
 obtain ⟨k,m,rfl,k2⟩:=dF k1 (hr _)
 obtain ⟨k',n,rfl,k3⟩:=dF k2 (hr _)
 obtain ⟨rfl,k4⟩:=dJ k3 hr
 rw [aS,o9,o9] at k4
 have key:∃ v,K (.int k v) hh nx=r∧v=if mx then (if n>m then n else m) else (if n<m then n else m):=by
  cases mx
  ·simp only [decide_eq_true_eq] at k4
   by_cases hlt:n<m
   ·rw [if_pos hlt] at k4;exact ⟨_,k4,by simp [hlt]⟩
   ·rw [if_neg hlt] at k4;exact ⟨_,k4,by simp [hlt]⟩
  ·simp only [decide_eq_true_eq] at k4
   by_cases hlt:m<n
   ·rw [if_pos hlt] at k4;exact ⟨_,k4,by simp [hlt]⟩
   ·rw [if_neg hlt] at k4;exact ⟨_,k4,by simp [hlt]⟩
 obtain ⟨v,hK,hv⟩:=key
 refine ⟨_,hK,fun g hp ρ w g1 g2 g3=>?_⟩
 obtain ⟨e1,e2⟩:=qE (x:=x) (y:=y) (by cases mx<;>simp [ho,Op.operands,Call.operands]) g3
 generalize hvx:ρ x=vx at e1
 generalize hvy:ρ y=vy at e2
 cases e1;cases e2
 refine ⟨.int k v,?_,.int _ _⟩
 cases mx
 ·simp [execOp,ho,resolve,invoke,builtin,Builtin.min_,Builtin.min2,hvx,hvy,hv]
 ·simp [execOp,ho,resolve,invoke,builtin,Builtin.max_,Builtin.max2,hvx,hvy,hv]
theorem HR.blk {g:Gh} {hp:B→Option Obj} {t:Tr Obj} {nx:B} {w:World} (h:HR T w0 ng g hp nx w) (hs:Sub t hp) {id:B} {ro:Bool} {sz hi:Nat} {cs:Tr V} (hg:id.get t=some (.blk ro sz hi cs)) :
  ∃ cur Tb fz,w.heap[(g id).b]?=some (.cells cur Tb fz)∧(ro=false→fz=(0,0))∧(g id).o+(g id).n≤cur.size∧sz≤(g id).n ∧
    ∀ (j:Nat) v,(bOf j).get cs=some v→j<hi∧∃ u,cur[(g id).o+j]?=some u∧RV g nx.num v u∧u.oneCell'=true:=
 (h.obj id _ (hs id _ hg)).2
theorem HR.cell {g:Gh} {hp:B→Option Obj} {t:Tr Obj} {nx:B} {w:World} (h:HR T w0 ng g hp nx w) (hs:Sub t hp) {id:B} {ro:Bool} {sz hi:Nat} {cs:Tr V} (hg:id.get t=some (.blk ro sz hi cs)) {j:Nat} {v:V} (hv:(bOf j).get cs=some v) :
  ∃ u,w.cell? ⟨(g id).b,(g id).o+j,none⟩=some u∧RV g nx.num v u∧u.oneCell'=true:=by
 obtain ⟨cur,Tb,fz,h1,h2,h3,h4,h5⟩:=h.blk hs hg
 obtain ⟨_,u,e1,e2,e3⟩:=h5 j v hv
 exact ⟨u,by rw [cell_of_row w _ _ cur Tb fz h1];exact e1,e2,e3⟩
theorem vY {g:Gh} {hp:B→Option Obj} {t:Tr Obj} {nx:B} {w:World} (h:HR T w0 ng g hp nx w) (hs:Sub t hp) {id:B} {ro:Bool} {sz hi:Nat} {cs:Tr V} (hg:id.get t=some (.blk ro sz hi cs))
  {off n:Nat} {vs:List V} (hv:dB cs off n=some vs) :
  ∃ f:Nat→Value,(∀ j,j<n→w.cell? ⟨(g id).b,(g id).o+off+j,none⟩=some (f j))∧∀ (j:Nat) v,vs[j]?=some v→RV g nx.num v (f j)∧(f j).oneCell'=true:=by
 obtain ⟨hl,hc⟩:=bV hv
 refine ⟨fun j=>(w.cell? ⟨(g id).b,(g id).o+off+j,none⟩).getD Go.undef,fun j hj=>?_,fun j v hv'=>?_⟩
 ·have hj':j<vs.length:=by omega
  have:=hc j hj
  rw [List.getElem?_eq_getElem hj'] at this
  obtain ⟨u,e1,_⟩:=h.cell hs hg this
  rw [← Nat.add_assoc] at e1
  simp [e1]
 ·have hj:j<n:=by have:=(List.getElem?_eq_some_iff.1 hv').1;omega
  have:=hc j hj
  rw [hv'] at this
  obtain ⟨u,e1,e2,e3⟩:=h.cell hs hg this
  rw [← Nat.add_assoc] at e1
  simp only [e1,Option.getD_some]
  exact ⟨e2,e3⟩
theorem XQ {k:TK} {n:Nat} {cs:Tr V} {off:Nat} {K:V→R} {e r:R} (h:MB k n cs off K e=r) (he:e≠r) :
  (k.isAgg=true∧∃ vs,dB cs off n=some vs∧K (.agg vs)=r)∨(k.isAgg=false∧k ≠ .none∧∃ v,(bOf off).get cs=some v∧K v=r):=by
 have one:∀ (k:TK),(Option.rec (motive:=fun _=>R) e (fun v=>K v) ((bOf off).get cs))=r→k.isAgg=false→k ≠ .none→(k.isAgg=true∧∃ vs,dB cs off n=some vs∧K (.agg vs)=r)∨(k.isAgg=false∧k ≠ .none∧∃ v,(bOf off).get cs=some v∧K v=r):=by
  intro k h h1 h2
  cases hg:(bOf off).get cs with
  | none=>rw [hg] at h;exact absurd h he
  | some v=>rw [hg] at h;exact .inr ⟨h1,h2,v,rfl,h⟩
 cases k with
 | none=>exact absurd h he
 | agg fs=>obtain ⟨vs,h1,h2⟩:=kK h he;exact .inl ⟨rfl,vs,h1,h2⟩
 | arr m e'=>obtain ⟨vs,h1,h2⟩:=kK h he;exact .inl ⟨rfl,vs,h1,h2⟩
 | _=>exact one _ h rfl (by simp)
theorem run_load (hT:TOK P T) {t:Nat} {g:Gh} {hp:B→Option Obj} {tr:Tr Obj} {nx:B} {w:World} (h:HR T w0 ng g hp nx w) (hs:Sub tr hp) {id:B} {ro:Bool} {sz hi:Nat} {cs:Tr V} (hg:id.get tr=some (.blk ro sz hi cs)) {off:Nat} {v:V}
  (hv:((T t).k.isAgg=true∧∃ vs,dB cs off (T t).size=some vs∧v = .agg vs)∨((T t).k.isAgg=false∧(T t).k ≠ .none∧(bOf off).get cs=some v)) :
  ∃ u,(loadVar t ⟨(g id).b,(g id).o+off,none⟩).run P w = .ok u w∧RV g nx.num v u:=by
 rcases hv with ⟨h1,vs,h2,rfl⟩ | ⟨h1,h2,h3⟩
 ·obtain ⟨d,i,hf⟩:=hT.facts (t:=t) (by intro e;rw [e] at h1;cases h1)
  obtain ⟨f,hf1,hf2⟩:=vY h hs hg h2
  obtain ⟨hl,_⟩:=bV h2
  refine ⟨_,hf.mP h1 w _ _ f hf1,.agg _ _ (by simp [hl]) (fun i c u hc hu=>?_) (fun i u hu=>?_)⟩
  ·have hi:i<(T t).size:=by have:=(Array.getElem?_eq_some_iff.1 hu).1;simpa using this
   simp [hi] at hu
   subst hu
   exact (hf2 i c hc).1
  ·have hi:i<(T t).size:=by have:=(Array.getElem?_eq_some_iff.1 hu).1;simpa using this
   simp [hi] at hu
   subst hu
   have hi':i<vs.length:=by omega
   exact (hf2 i _ (List.getElem?_eq_getElem hi')).2
 ·obtain ⟨d,i,hf⟩:=hT.facts h2
  obtain ⟨u,e1,e2,_⟩:=h.cell hs hg h3
  exact ⟨u,hf.iV h2 h1 w _ _ u e1,e2⟩
theorem MW (hT:TOK P T) {o:Oper} {t:Nat} {x:Operand} (ho:o.op = .load t x):HQ P T w0 ng o (adA t):=by
 intro call _ vals hh nx K r hr h
 obtain ⟨v,rfl,k1⟩:=lG h (hr _)
 obtain ⟨id,off,rfl,k2⟩:=jM k1 (hr _)
 obtain ⟨ro,sz,hi,cs,hg,k3⟩:=fO k2 (hr _)
 have key:∃ v,K v hh nx=r∧(((T t).k.isAgg=true∧∃ vs,dB cs off (T t).size=some vs∧v = .agg vs)∨((T t).k.isAgg=false∧(T t).k ≠ .none∧(bOf off).get cs=some v)):=by
  rcases XQ k3 (hr _) with ⟨h1,vs,h2,h3⟩ | ⟨h1,h2,v,h3,h4⟩
  ·exact ⟨_,h3,.inl ⟨h1,vs,h2,rfl⟩⟩
  ·exact ⟨_,h4,.inr ⟨h1,h2,h3⟩⟩
 obtain ⟨v,hK,hv⟩:=key
 refine ⟨_,hK,fun g hp ρ w g1 g2 g3=>?_⟩
 have hx:=nD (x:=x) (by simp [ho,Op.operands]) g3
 generalize hvx:ρ x=vx at hx
 cases hx
 obtain ⟨u,e1,e2⟩:=run_load hT g1 g2 hg hv
 exact ⟨u,by simp [execOp,ho,hvx,Instr.loadAt,Instr.sureAddr,e1],e2⟩
theorem Sz (hT:TOK P T) {o:Oper} {t:Nat} {x:Operand} (ho:o.op = .call { callee := .builtin .len,args:=#[x],argTypes:=#[t] }):HQ P T w0 ng o (hLen t):=by
 intro call _ vals hh nx K r hr h
 obtain ⟨v,rfl,k1⟩:=lG h (hr _)
 have fin:∀ (n:Nat),K (.int .i64 (.ofNat n)) hh nx=r→(∀ g hp w u,HR T w0 ng g hp nx w→Sub hh hp→RV g nx.num v u→(Builtin.len_ #[t] o.type #[u]).run P w = .ok (.int .i64 n) w)→∃ v',K v' hh nx=r∧QT P T w0 ng o [v] hh nx v':=by
  intro n hK hrun
  refine ⟨_,hK,fun g hp ρ w g1 g2 g3=>?_⟩
  have hx:=nD (x:=x) (by simp [ho,Op.operands,Call.operands]) g3
  have:=hrun g hp w _ g1 g2 hx
  exact ⟨.int .i64 n,by simp [execOp,ho,resolve,invoke,builtin,this],.int _ _⟩
 cases hk:(T t).k<;>rw [hk] at k1<;>simp only [XT] at k1<;>try exact absurd k1 (hr _)
 case str=>
  obtain ⟨l,n,rfl,k2⟩:=fM k1 (hr _)
  refine fin _ k2 fun g hp w u _ _ hu=>?_
  cases hu
  rename_i s hs
  have e:(⟨s.toArray⟩:ByteArray).size=s.length:=by simp [ByteArray.size]
  simp [Builtin.len_,run_underlying (rQ hT hk),goInt,e]
 case slc e=>
  have hu:=wu hT hk
  have hl:∀ (w:World) a n c,(Builtin.len_ #[t] o.type #[.slice a n c]).run P w = .ok (.int .i64 n) w:=fun w a n c=>by
   simp [Builtin.len_,run_underlying hu,goInt]
  rcases jG k1 with ⟨id,sz,off,len,cap,rfl,k2⟩ | ⟨_,k2⟩
  ·refine fin _ k2 fun g hp w u _ _ hu=>?_
   cases hu;exact hl _ _ _ _
  ·obtain ⟨hv,k3⟩:=jc k2 (hr _)
   refine fin 0 k3 fun g hp w u _ _ hu=>?_
   rcases hv with rfl | rfl<;>cases hu<;>exact hl _ _ _ _
 case arr n e=>
  have hu:=AO hT hk
  exact fin n k1 fun g hp w u _ _ _=>by simp [Builtin.len_,run_underlying hu,goInt]
 case map a b=>
  have hu:=Iq hT hk
  rcases NS k1 with ⟨id,rfl,k2⟩ | ⟨_,k2⟩
  ·obtain ⟨kt,es,hg,k3⟩:=yc k2 (hr _)
   rw [aH] at k3
   refine fin _ k3 fun g hp w u g1 g2 hu'=>?_
   cases hu'
   obtain ⟨_,ents,clock,e1,e2,_⟩:=g1.obj _ _ (g2 _ _ hg)
   simp [Builtin.len_,run_underlying hu,goInt,Go.MapKept.run_getObj_map e1,e2]
  ·obtain ⟨rfl,k3⟩:=Gx k2 (hr _)
   refine fin 0 k3 fun g hp w u _ _ hu'=>?_
   cases hu'
   simp [Builtin.len_,run_underlying hu,goInt]
end
section
variable {P:Program} {T:Nat→TE} {w0:World} {ng:Nat}
theorem DU {k:TK} {f:Nat} {K:Nat→Nat→Bool→R} {e r:R} (h:acF (sK k f) K e=r) (he:e≠r):∃ fs fo fsz fb,k = .agg fs∧fs[f]?=some (fo,fsz,fb)∧K fo fsz fb=r:=by
 cases k<;>try exact absurd h he
 rename_i fs
 simp only [sK] at h
 cases hf:fs[f]? with
 | none=>rw [hf] at h;exact absurd h he
 | some x=>rw [hf] at h;exact ⟨fs,x.1,x.2.1,x.2.2,rfl,hf,h⟩
theorem uq (hT:TOK P T) {o:Oper} {t f:Nat} {x:Operand} (ho:o.op = .fieldAddr t x f):HQ P T w0 ng o (Dz t f):=by
 intro call _ vals hh nx K r hr h
 obtain ⟨fs,fo,fsz,fb,hk,hf,k1⟩:=DU h (hr _)
 obtain ⟨hz,k2⟩:=aG k1 (hr _)
 obtain ⟨v,rfl,k3⟩:=lG k2 (hr _)
 obtain ⟨id,off,rfl,k4⟩:=jM k3 (hr _)
 rw [aH] at k4
 refine ⟨_,k4,fun g hp ρ w g1 g2 g3=>?_⟩
 have hx:=nD (x:=x) (by simp [ho,Op.operands]) g3
 generalize hvx:ρ x=vx at hx
 cases hx
 rename_i hid
 have:=Abs.zG (w:=w) hT hk hf (by have:=aO.1 hz;omega) (g id).b ((g id).o+off)
 refine ⟨_,by simp only [execOp,ho,hvx];rw [Sem.run_bind,this];rfl,?_⟩
 rw [Nat.add_assoc]
 exact .ptr id _ hid
theorem GX (hT:TOK P T) {o:Oper} {t f:Nat} {x:Operand} (ho:o.op = .field t x f):HQ P T w0 ng o (YJ t f):=by
 intro call _ vals hh nx K r hr h
 obtain ⟨fs,fo,fsz,fb,hk,hf,k1⟩:=DU h (hr _)
 obtain ⟨v,rfl,k2⟩:=lG k1 (hr _)
 obtain ⟨cs,rfl,k3⟩:=oV k2 (hr _)
 obtain ⟨hle,k4⟩:=aG k3 (hr _)
 obtain ⟨c,hc,k5⟩:=eU k4 (hr _)
 rw [G5] at k5
 have hle':fo+fsz≤cs.length:=aX.1 hle
 refine ⟨_,k5,fun g hp ρ w g1 g2 g3=>?_⟩
 have hx:=nD (x:=x) (by simp [ho,Op.operands]) g3
 generalize hvx:ρ x=vx at hx
 cases hx with
 | agg _ us e1 e2 e3=>
   obtain ⟨d,i,hfac,hd⟩:=Bq hT hk (by simp)
   cases d
   case struct fields=>
    simp only [Abs.kOf] at hd
    split at hd
    ·cases hd
     simp only [List.getElem?_map,Option.map_eq_some_iff] at hf
     obtain ⟨fd,hfd,hfe⟩:=hf
     simp only [Prod.mk.injEq] at hfe
     obtain ⟨rfl,rfl,rfl⟩:=hfe
     have hfd':fields[f]?=some fd:=by simpa using hfd
     rename_i hall
     have h1:=(Bool.and_eq_true _ _).mp (List.all_eq_true.1 hall fd (List.mem_of_getElem? hfd))
     obtain ⟨ii,hii⟩:=Option.isSome_iff_exists.1 h1.1
     obtain ⟨dd,hdd⟩:=Option.isSome_iff_exists.1 h1.2
     have hagg:=Abs.sH (P:=P) hdd w
     have hsz:P.cellsOf fd.type=ii.size:=by simp [Program.cellsOf,hii]
     have hrun:(Instr.field t (.agg us) f).run P w=((Go.part fd.type us fd.offset).run P w):=by
      simp [Instr.field,run_underlying hfac.und,hfd',Go.asAgg]
     have ex:(execOp ρ o).run P w=((Go.part fd.type us fd.offset).run P w).andThen fun v w => .ok (.value v) w:=by
      simp only [execOp,ho,hvx]
      rw [Sem.run_bind,hrun]
      rfl
     rw [ex]
     cases hb:Abs.lT P fd.type with
     | true=>
       rw [hb] at hc hagg
       simp only [part,Option.some.injEq] at hc
       subst hc
       refine ⟨.agg (us.extract fd.offset (fd.offset+P.cellsOf fd.type)),?_,.agg _ _ ?_ (fun i c u hc hu=>?_) (fun i u hu=>?_)⟩
       ·simp [Go.part,hagg,run_sizeOf w hii,hsz]
       ·simp;omega
       ·obtain ⟨hi,he⟩:=Array.getElem?_eq_some_iff.1 hu
        rw [Array.getElem_extract] at he
        simp at hi
        rw [List.getElem?_take_of_lt (by omega),List.getElem?_drop] at hc
        exact e2 (fd.offset+i) c u hc (Array.getElem?_eq_some_iff.2 ⟨by omega,he⟩)
       ·obtain ⟨hi,he⟩:=Array.getElem?_eq_some_iff.1 hu
        rw [Array.getElem_extract] at he
        simp at hi
        exact e3 (fd.offset+i) u (Array.getElem?_eq_some_iff.2 ⟨by omega,he⟩)
     | false=>
       rw [hb] at hc hagg
       simp only [part] at hc
       have hi:fd.offset<us.size:=by rw [e1];exact (List.getElem?_eq_some_iff.1 hc).1
       exact ⟨us[fd.offset],by simp [Go.part,hagg,hi],e2 _ _ _ hc (by simp [hi])⟩
    ·cases hd
   case array n' e'=>simp only [Abs.kOf] at hd;split at hd<;>cases hd
   all_goals exact absurd hd (by simp [Abs.kOf])
theorem uo (hT:TOK P T) {o:Oper} {t:Nat} {x ix:Operand} (ho:o.op = .indexAddr t x ix):HQ P T w0 ng o (Dy t):=by
 intro call _ vals hh nx K r hr h
 obtain ⟨v,vi,rfl,k1⟩:=mV h (hr _)
 cases hk:(T t).k<;>rw [hk] at k1<;>simp only [O9] at k1<;>try exact absurd k1 (hr _)
 case slc e=>
  obtain ⟨id,sz,off,len,cap,rfl,k2⟩:=x9 k1 (hr _)
  obtain ⟨k,i,rfl,k3⟩:=dF k2 (hr _)
  obtain ⟨hb,k4⟩:=aG k3 (hr _)
  obtain ⟨hkn,hsz⟩:=aB hb
  obtain ⟨m,rfl,hm,k5⟩:=jo k4 (hr _)
  rw [aH] at k5
  have hsz':=beq_iff.1 hsz
  refine ⟨_,k5,fun g hp ρ w g1 g2 g3=>?_⟩
  obtain ⟨hx,hi⟩:=qE (x:=x) (y:=ix) (by simp [ho,Op.operands]) g3
  generalize hvx:ρ x=vx at hx
  generalize hvi:ρ ix=vi at hi
  cases hi
  cases hx with
  | sl _ _ _ _ _ a c i1 i2 i3 i4 i5 i6 i7=>
    have ha:=i7 (by omega)
    subst ha
    obtain ⟨de,ie,hfe⟩:=hT.facts (Abs.TE.aK hkn)
    have hu:=wu hT hk
    refine ⟨.pointer (some ⟨(g id).b,(g id).o+off+m*(T e).size,none⟩),?_,?_⟩
    ·simp only [execOp,ho,hvx,hvi]
     rw [Sem.run_bind]
     have:(Instr.indexAt t (.slice (some ⟨(g id).b,(g id).o+off,none⟩) len c) (.int k m)).run P w = .ok (.pointer (some ⟨(g id).b,(g id).o+off+m*(T e).size,none⟩)) w:=by
      simp [Instr.indexAt,asIntOf,run_underlying hu,hfe.sizeOf,hm,Addr.add_lit]
     rw [this];rfl
    ·rw [hsz',Nat.add_assoc];exact .ptr id _ i1
 case arr n e=>
  obtain ⟨id,off,rfl,k2⟩:=jM k1 (hr _)
  obtain ⟨k,i,rfl,k3⟩:=dF k2 (hr _)
  obtain ⟨hkn,k4⟩:=aG k3 (hr _)
  obtain ⟨m,rfl,hm,k5⟩:=jo k4 (hr _)
  rw [aH] at k5
  refine ⟨_,k5,fun g hp ρ w g1 g2 g3=>?_⟩
  obtain ⟨hx,hi⟩:=qE (x:=x) (y:=ix) (by simp [ho,Op.operands]) g3
  generalize hvx:ρ x=vx at hx
  generalize hvi:ρ ix=vi at hi
  cases hi;cases hx
  rename_i hid
  obtain ⟨de,ie,hfe⟩:=hT.facts (Abs.TE.aK hkn)
  have hu:=AO hT hk
  refine ⟨.pointer (some ⟨(g id).b,(g id).o+off+m*(T e).size,none⟩),?_,?_⟩
  ·simp only [execOp,ho,hvx,hvi]
   rw [Sem.run_bind]
   have:(Instr.indexAt t (.pointer (some ⟨(g id).b,(g id).o+off,none⟩)) (.int k m)).run P w = .ok (.pointer (some ⟨(g id).b,(g id).o+off+m*(T e).size,none⟩)) w:=by
    simp [Instr.indexAt,asIntOf,run_underlying hu,Instr.sureAddr,hfe.sizeOf,hm,Addr.add_lit]
   rw [this];rfl
  ·rw [Nat.add_assoc];exact .ptr id _ hid
theorem GV (hT:TOK P T) {o:Oper} {t:Nat} {x ix:Operand} (ho:o.op = .index t x ix):HQ P T w0 ng o (YI t):=by
 intro call _ vals hh nx K r hr h
 obtain ⟨v,vi,rfl,k1⟩:=mV h (hr _)
 cases hk:(T t).k<;>rw [hk] at k1<;>simp only [X6] at k1<;>try exact absurd k1 (hr _)
 case str=>
  obtain ⟨l,n,rfl,k2⟩:=fM k1 (hr _)
  obtain ⟨k,i,rfl,k3⟩:=dF k2 (hr _)
  obtain ⟨m,rfl,hm,k4⟩:=jo k3 (hr _)
  rw [aH] at k4
  refine ⟨_,k4,fun g hp ρ w g1 g2 g3=>?_⟩
  obtain ⟨hx,hi⟩:=qE (x:=x) (y:=ix) (by simp [ho,Op.operands]) g3
  generalize hvx:ρ x=vx at hx
  generalize hvi:ρ ix=vi at hi
  cases hi;cases hx
  rename_i s hs
  have hc:s[m]?=some s[m]:=List.getElem?_eq_getElem hm
  have hg:=Abs.SH s m _ hc
  have e:Nat.mod (Nat.shiftRight (aU s) (Nat.mul 8 (Nat.sub (Nat.sub s.length 1) m))) 256=s[m].toNat:=by
   rw [← KX s m _ hc]
   show Nat.shiftRight (aU s) (8*(s.length-1-m)) % 256=_
   rw [show Nat.shiftRight (aU s) (8*(s.length-1-m))=aU s / 2 ^ (8*(s.length-1-m)) from Nat.shiftRight_eq_div_pow _ _]
  refine ⟨.int .u8 s[m].toNat,by simp [execOp,ho,hvx,hvi,Instr.index,asIntOf,run_underlying (rQ hT hk),hg],?_⟩
  rw [e];exact .int _ _
 case arr n e=>
  obtain ⟨cs,rfl,k2⟩:=oV k1 (hr _)
  obtain ⟨k,i,rfl,k3⟩:=dF k2 (hr _)
  obtain ⟨m,rfl,hm,k4⟩:=jo k3 (hr _)
  rw [aH] at k4
  obtain ⟨hb,k5⟩:=aG k4 (hr _)
  obtain ⟨hkn,hle⟩:=aB hb
  obtain ⟨c,hc,k6⟩:=eU k5 (hr _)
  rw [G5] at k6
  have hle':m*(T e).size+(T e).size≤cs.length:=aX.1 hle
  refine ⟨_,k6,fun g hp ρ w g1 g2 g3=>?_⟩
  obtain ⟨hx,hi⟩:=qE (x:=x) (y:=ix) (by simp [ho,Op.operands]) g3
  generalize hvx:ρ x=vx at hx
  generalize hvi:ρ ix=vi at hi
  cases hi
  cases hx with
  | agg _ us e1 e2 e3=>
    obtain ⟨de,ie,hfe⟩:=hT.facts (Abs.TE.aK hkn)
    have hu:=AO hT hk
    have hagg:=congrFun (hfe.En (Abs.TE.aK hkn)) w
    have hsz:=hfe.sizeOf w
    have hrun:(Instr.index t (.agg us) (.int k m)).run P w=(Go.part e us (m*(T e).size)).run P w:=by
     simp [Instr.index,asIntOf,run_underlying hu,hsz,hm]
    have ex:(execOp ρ o).run P w=((Go.part e us (m*(T e).size)).run P w).andThen fun v w => .ok (.value v) w:=by
     simp only [execOp,ho,hvx,hvi]
     rw [Sem.run_bind,hrun]
     rfl
    rw [ex]
    cases hb2:(T e).k.isAgg with
    | true=>
      rw [hb2] at hc hagg
      simp only [part,Option.some.injEq] at hc
      subst hc
      refine ⟨.agg (us.extract (m*(T e).size) (m*(T e).size+(T e).size)),?_,.agg _ _ ?_ (fun i c u hc hu=>?_) (fun i u hu=>?_)⟩
      ·simp [Go.part,hagg,hsz]
      ·have hle2:Nat.mul m (T e).size+(T e).size≤cs.length:=hle'
       simp;omega
      ·obtain ⟨hi,he⟩:=Array.getElem?_eq_some_iff.1 hu
       rw [Array.getElem_extract] at he
       simp at hi
       rw [List.getElem?_take_of_lt (by omega),List.getElem?_drop] at hc
       exact e2 (m*(T e).size+i) c u hc (Array.getElem?_eq_some_iff.2 ⟨by omega,he⟩)
      ·obtain ⟨hi,he⟩:=Array.getElem?_eq_some_iff.1 hu
       rw [Array.getElem_extract] at he
       simp at hi
       exact e3 (m*(T e).size+i) u (Array.getElem?_eq_some_iff.2 ⟨by omega,he⟩)
    | false=>
      rw [hb2] at hc hagg
      simp only [part] at hc
      have hi:m*(T e).size<us.size:=by rw [e1];exact (List.getElem?_eq_some_iff.1 hc).1
      exact ⟨us[m*(T e).size],by simp [Go.part,hagg,hi],e2 _ _ _ hc (by simp [hi])⟩
theorem GN {o:Oper} {gl:Nat} (ho:o.op = .waits gl):HQ P T w0 ng o (YF gl ng):=by
 intro call _ vals hh nx K r hr h
 obtain ⟨hlt,k1⟩:=aG h (hr _)
 obtain ⟨ro,sz,hi,cs,hg,k2⟩:=fO k1 (hr _)
 refine ⟨_,k2,fun g hp ρ w g1 g2 g3=>?_⟩
 obtain ⟨cur,Tb,fz,e1,_⟩:=g1.blk g2 hg
 rw [(g1.glob gl (aO.1 hlt)).1] at e1
 have hs:(shape gl).run P w = .ok (w.shape? gl) w:=rfl
 have hs':w.shape? gl=some (Tb,cur.size):=by simp [World.shape?,e1]
 exact ⟨.bool false,by simp [execOp,ho,Instr.waits,hs,hs'],.bool _⟩
theorem ajZ {there:Bool} {vs:List V} {K:Option Nat→List V→R} {e r:R} (h:bnd there vs K e=r) (he:e≠r) :
  (there=false∧K none vs=r)∨∃ k n vs',there=true∧vs = .int k (n:Nat)::vs'∧K (some n) vs'=r:=by
 cases there with
 | false=>exact .inl ⟨rfl,h⟩
 | true=>
   obtain ⟨v,vs',rfl,k1⟩:=RI h he
   obtain ⟨k,i,rfl,k2⟩:=dF k1 he
   obtain ⟨n,rfl,_,k3⟩:=jo k2 he
   exact .inr ⟨k,n,vs',rfl,rfl,k3⟩
theorem Lr {t e:Nat} (hu:P.underlying t=some (.slice e)) {sz:Nat} {w:World} (hs:(sizeOf e).run P w = .ok sz w) (a:Option Addr) (len cap:Nat) (lo hi m:Option Nat) (kl kh km:IntKind)
  (h1:orD lo 0≤orD hi len) (h2:orD hi len≤orD m cap) (h3:orD m cap≤cap) (h4:m.isSome=true→hi.isSome=true) :
  (Instr.sliceAt t (.slice a len cap) (lo.map fun (n:Nat)=>Value.int kl n) (hi.map fun (n:Nat)=>Value.int kh n) (m.map fun (n:Nat)=>Value.int km n)).run P w =
   .ok (.slice (if orD m cap=orD lo 0 then a else a.map (·.add (orD lo 0*sz))) (orD hi len-orD lo 0) (orD m cap-orD lo 0)) w:=by
 cases lo<;>cases hi<;>cases m<;>simp [orD] at h1 h2 h3 h4 ⊢ <;>
  simp [Instr.sliceAt,Instr.slice,run_underlying hu,Instr.sliceBounds,Instr.sliceBound,asIntOf,hs,h1,h2,h3]<;>congr
theorem WH {t:Nat} (hu:P.underlying t=some .string) {w:World} (s:ByteArray) (lo hi:Option Nat) (kl kh:IntKind)
  (h1:orD lo 0≤orD hi s.size) (h2:orD hi s.size≤s.size) :
  (Instr.sliceAt t (.string s) (lo.map fun (n:Nat)=>Value.int kl n) (hi.map fun (n:Nat)=>Value.int kh n) none).run P w = .ok (.string (s.extract (orD lo 0) (orD hi s.size))) w:=by
 cases lo<;>cases hi<;>simp [orD] at h1 h2 ⊢ <;>
  simp [Instr.sliceAt,Instr.slice,run_underlying hu,Instr.sliceBounds,Instr.sliceBound,asIntOf,h1,h2]
theorem WJ {t n e:Nat} (hu:P.underlying t=some (.array n e)) {sz:Nat} {w:World} (hs:(sizeOf e).run P w = .ok sz w) (a:Addr) (lo hi:Option Nat) (kl kh:IntKind)
  (h1:orD lo 0≤orD hi n) (h2:orD hi n≤n) :
  (Instr.sliceAt t (.pointer (some a)) (lo.map fun (n:Nat)=>Value.int kl n) (hi.map fun (n:Nat)=>Value.int kh n) none).run P w =
   .ok (.slice (some (if n=orD lo 0 then a else a.add (orD lo 0*sz))) (orD hi n-orD lo 0) (n-orD lo 0)) w:=by
 cases lo<;>cases hi<;>simp [orD] at h1 h2 ⊢ <;>
  simp [Instr.sliceAt,Instr.sureAddr,run_underlying hu,Instr.sliceBounds,Instr.sliceBound,asIntOf,hs,h1,h2]<;>congr
theorem adb (m cap:Option Nat) (l mm:Nat) (K:Option Nat→R):al5 m cap l mm K=K (match m,cap with | none,none=>none | none,some c=>some (c-l) | some _,_=>some (mm-l)):=by
 cases m<;>cases cap<;>first | rfl | exact aH _ _
theorem UZ (hT:TOK P T) {t:Nat} {x:V} {lo hi m:Option Nat} {K:V→R} {r:R} (hr:∀ n,R.bad n≠r) (h:Oo (T t).k T x lo hi m K=r) :
  ∃ v,K v=r∧∀ (g:Gh) (n:Nat) (w:World) (u:Value) (kl kh km:IntKind),RV g n x u →
    (∀ e c,(T t).k = .arr e c→∀ id sz off len cc,v = .sl id sz off len (some cc)→off+cc*sz≤(g id).n) →
    ∃ u',(Instr.sliceAt t u (lo.map fun (n:Nat)=>Value.int kl n) (hi.map fun (n:Nat)=>Value.int kh n) (m.map fun (n:Nat)=>Value.int km n)).run P w = .ok u' w∧RV g n v u':=by
 cases hk:(T t).k<;>rw [hk] at h<;>simp only [Oo] at h<;>try exact absurd h (hr _)
 case str=>
  obtain ⟨len,n,rfl,k1⟩:=fM h (hr _)
  obtain ⟨hb,k2⟩:=aG k1 (hr _)
  obtain ⟨b1,b2⟩:=aB hb
  obtain ⟨b3,b4⟩:=aB b2
  have b1':=aX.1 b1
  have b3':=aX.1 b3
  rw [aH,aH] at k2
  have hm:m=none:=by cases m<;>first | rfl | exact absurd b4 (by simp)
  subst hm
  refine ⟨_,k2,fun g n' w u kl kh km hu hroom=>?_⟩
  clear hroom
  cases hu
  rename_i s hs
  have hsz:(⟨s.toArray⟩:ByteArray).size=s.length:=by simp [ByteArray.size]
  refine ⟨_,WH (rQ hT hk) _ lo hi kl kh (by rw [hsz];exact b1') (by rw [hsz];exact b3'),?_⟩
  rw [hsz,Abs.Jw]
  have e1:Nat.sub (orD hi s.length) (orD lo 0)=((s.take (orD hi s.length)).drop (orD lo 0)).length:=by
   show orD hi s.length-orD lo 0=_
   simp;omega
  have e2:Nat.mod (Nat.shiftRight (aU s) (Nat.mul 8 (Nat.sub s.length (orD hi s.length)))) (Nat.pow 2 (Nat.mul 8 (Nat.sub (orD hi s.length) (orD lo 0))))=aU ((s.take (orD hi s.length)).drop (orD lo 0)):=by
   rw [UM,FP,List.length_take,Nat.min_eq_left b3']
   show Nat.shiftRight (aU s) (8*(s.length-orD hi s.length)) % 2 ^ (8*(orD hi s.length-orD lo 0))=_
   rw [show Nat.shiftRight (aU s) (8*(s.length-orD hi s.length))=aU s / 2 ^ (8*(s.length-orD hi s.length)) from Nat.shiftRight_eq_div_pow _ _]
  rw [e2,e1]
  exact .str _ (by simp;omega)
 case slc e=>
  obtain ⟨hkn,k0⟩:=aG h (hr _)
  obtain ⟨de,ie,hfe⟩:=hT.facts (Abs.TE.aK hkn)
  have hu:=wu hT hk
  rcases jG k0 with ⟨id,sz,off,len,cap,rfl,k1⟩ | ⟨_,k1⟩
  ·obtain ⟨hb,k2⟩:=aG k1 (hr _)
   obtain ⟨b0,b1⟩:=aB hb
   obtain ⟨b2,b3⟩:=aB b1
   obtain ⟨b4,b5⟩:=aB b3
   obtain ⟨b6,b7⟩:=aB b5
   have b0':=beq_iff.1 b0
   have b2':=aX.1 b2
   have b4':=aX.1 b4
   rw [aH,aH,adb] at k2
   refine ⟨_,k2,fun g n w u kl kh km hx _=>?_⟩
   cases hx with
   | sl _ _ _ _ _ a c i1 i2 i3 i4 i5 i6 i7=>
     have hcap:orD cap len≤c:=by
      cases cap with
      | none=>exact i2
      | some k=>rw [i4 k rfl];exact Nat.le_refl _
     have hmm:orD m (orD cap len)≤orD m c∧orD m c≤c∧orD hi len≤orD m c:=by
      cases m with
      | none=>exact ⟨hcap,Nat.le_refl _,Nat.le_trans b4' hcap⟩
      | some m=>exact ⟨Nat.le_refl _,Nat.le_trans (aX.1 b6) hcap,b4'⟩
     have h4:m.isSome=true→hi.isSome=true:=by
      intro hm
      cases m with
      | none=>cases hm
      | some m=>cases hi with
        | none=>exact absurd b7 (by simp)
        | some hi=>rfl
     refine ⟨_,Lr hu (hfe.sizeOf w) a len c lo hi m kl kh km b2' hmm.2.2 hmm.2.1 h4,?_⟩
     have hlo:orD lo 0≤orD m c:=by omega
     have hmul:off+Nat.mul (orD lo 0) sz+(orD m c-orD lo 0)*sz≤(g id).n:=by
      have e:orD lo 0*sz+(orD m c-orD lo 0)*sz=orD m c*sz:=by rw [← Nat.add_mul];congr 1;omega
      have:orD m c*sz≤c*sz:=Nat.mul_le_mul_right _ hmm.2.1
      show off+orD lo 0*sz+(orD m c-orD lo 0)*sz≤_
      omega
     have hA:orD hi len-orD lo 0≤orD m c-orD lo 0:=Nat.sub_le_sub_right hmm.2.2 _
     have hB:orD m c-orD lo 0≤maxL:=Nat.le_trans (Nat.sub_le _ _) (Nat.le_trans hmm.2.1 i3)
     refine .sl id sz _ _ _ _ _ i1 hA hB (fun k hk'=>?_) i5 hmul (fun hpos=>?_)
     ·cases m with
      | none=>cases cap with
        | none=>cases hk'
        | some c'=>
          have:=i4 c' rfl
          simp only [Option.some.injEq] at hk'
          subst hk';subst this;rfl
      | some m'=>
        simp only [Option.some.injEq] at hk'
        subst hk';rfl
     ·have hcc:orD lo 0<orD m c:=Nat.lt_of_sub_pos hpos
      have ha:=i7 (Nat.lt_of_lt_of_le (Nat.lt_of_le_of_lt (Nat.zero_le _) hcc) hmm.2.1)
      subst ha
      rw [if_neg (Nat.ne_of_gt hcc)]
      simp only [Option.map_some,Addr.add_lit]
      rw [← b0']
      show some (⟨_,(g id).o+off+orD lo 0*sz,none⟩:Addr)=some ⟨_,(g id).o+(off+orD lo 0*sz),none⟩
      rw [Nat.add_assoc]
  ·obtain ⟨hb,k2⟩:=aG k1 (hr _)
   obtain ⟨b1,b2⟩:=aB hb
   obtain ⟨b3,b4⟩:=aB b2
   obtain ⟨hv,k3⟩:=jc k2 (hr _)
   have hm:orD m 0=0∧(m.isSome=true→hi.isSome=true):=by
    cases m with
    | none=>exact ⟨rfl,fun h=>by cases h⟩
    | some k=>
      cases hi with
      | none=>exact absurd b4 (by simp)
      | some h'=>exact ⟨beq_iff.1 (show Nat.beq k 0=true from b4),fun _=>rfl⟩
   have e1:=beq_iff.1 b1
   have e3:=beq_iff.1 b3
   refine ⟨_,k3,fun g n w u kl kh km hx _=>?_⟩
   have run:∀ (a:Option Addr),(Instr.sliceAt t (.slice a 0 0) (lo.map fun (n:Nat)=>Value.int kl n) (hi.map fun (n:Nat)=>Value.int kh n) (m.map fun (n:Nat)=>Value.int km n)).run P w = .ok (.slice a 0 0) w:=by
    intro a
    have:=Lr hu (hfe.sizeOf w) a 0 0 lo hi m kl kh km (by rw [e1];exact Nat.zero_le _) (by rw [e3];exact Nat.zero_le _) (by rw [hm.1];exact Nat.le_refl _) hm.2
    rw [e1,e3,hm.1] at this
    simpa using this
   rcases hv with rfl | rfl
   ·cases hx;exact ⟨_,run none,.aj⟩
   ·cases hx;exact ⟨_,run _,.gI _⟩
 case arr n e=>
  obtain ⟨hb0,k0⟩:=aG h (hr _)
  obtain ⟨hb1,hb2⟩:=aB hb0
  obtain ⟨hkn,hnl⟩:=aB hb1
  obtain ⟨id,off,rfl,k1⟩:=jM k0 (hr _)
  obtain ⟨hb,k2⟩:=aG k1 (hr _)
  obtain ⟨b1,b2⟩:=aB hb
  obtain ⟨b3,b4⟩:=aB b2
  have b1':=aX.1 b1
  have b3':=aX.1 b3
  have hnl':=aX.1 hnl
  rw [aH,aH,aH] at k2
  have hm:m=none:=by cases m<;>first | rfl | exact absurd b4 (by simp)
  subst hm
  obtain ⟨de,ie,hfe⟩:=hT.facts (Abs.TE.aK hkn)
  refine ⟨_,k2,fun g n' w u kl kh km hx hroom=>?_⟩
  cases hx
  rename_i hid
  refine ⟨_,WJ (AO hT hk) (hfe.sizeOf w) _ lo hi kl kh b1' b3',?_⟩
  refine .sl id _ _ _ _ _ _ hid (Nat.sub_le_sub_right b3' _) (Nat.le_trans (Nat.sub_le _ _) hnl') (fun k hk'=>by simp at hk';subst hk';rfl) (aO.1 hb2) (hroom n e rfl _ _ _ _ _ rfl) (fun hpos=>?_)
  have hlt:orD lo 0<n:=by
   have:0<n-orD lo 0:=hpos
   omega
  rw [if_neg (by omega),Addr.add_lit]
  show some (⟨_,(g id).o+off+orD lo 0*(T e).size,none⟩:Addr)=some ⟨_,(g id).o+(off+orD lo 0*(T e).size),none⟩
  rw [Nat.add_assoc]
theorem KA {x:Option Operand} {vs:List V} {K:Option Nat→List V→R} {e r:R} (h:bnd x.isSome vs K e=r) (he:e≠r) :
  ∃ l vs',K l vs'=r∧∀ (g:Gh) (n:Nat) (ρ:Operand→Value) (xs:List Operand),RVL g n vs ((x.toList++xs).map ρ)→(∃ k,x.map ρ=l.map fun (n:Nat)=>Value.int k n)∧RVL g n vs' (xs.map ρ):=by
 rcases ajZ h he with ⟨h1,h2⟩ | ⟨k,n,vs',h1,rfl,h2⟩
 ·refine ⟨none,vs,h2,fun g n ρ xs hl=>?_⟩
  cases x with
  | none=>exact ⟨⟨.i64,rfl⟩,hl⟩
  | some x=>cases h1
 ·refine ⟨some n,vs',h2,fun g m ρ xs hl=>?_⟩
  cases x with
  | none=>cases h1
  | some x=>
    obtain ⟨v,vs2,e1,e2,e3⟩:=hl.inv
    simp only [Option.toList_some,List.cons_append,List.nil_append,List.map_cons,List.cons.injEq] at e1
    obtain ⟨rfl,rfl⟩:=e1
    refine ⟨⟨k,?_⟩,e3⟩
    rw [Option.map_some,Option.map_some]
    generalize ρ x=u at e2
    cases e2
    rfl
theorem WO {v:V} {t:Tr Obj} {K r:R} (hr:∀ n,R.bad n≠r) (h:WQ v t K=r) :
  K=r∧∀ id sz off len c,v = .sl id sz off len (some c)→∃ ro n hi cs,id.get t=some (.blk ro n hi cs)∧off+c*sz≤n:=by
 unfold WQ at h
 rcases jG h with ⟨id,sz,off,len,cap,rfl,k1⟩ | ⟨hne,k1⟩
 ·cases cap with
  | none=>exact ⟨k1,fun id sz off len c e=>by cases e⟩
  | some c=>
    obtain ⟨ro,n,hi,cs,hg,k2⟩:=fO (K:=fun _ n _ _=>aI (Nat.ble (Nat.add off (Nat.mul c sz)) n) K (.bad 52)) k1 (hr _)
    obtain ⟨hb,k3⟩:=aG k2 (hr _)
    refine ⟨k3,fun id' sz' off' len' c' e=>?_⟩
    cases e
    exact ⟨ro,n,hi,cs,hg,aX.1 hb⟩
 ·exact ⟨k1,fun id sz off len c e=>absurd e (hne _ _ _ _ _)⟩
theorem GR (hT:TOK P T) {o:Oper} {t:Nat} {x:Operand} {lo hi mx:Option Operand} (ho:o.op = .slice t x lo hi mx):HQ P T w0 ng o (YH t lo.isSome hi.isSome mx.isSome):=by
 intro call _ vals hh nx K r hr h
 obtain ⟨v,vs,rfl,k1⟩:=RI h (hr _)
 obtain ⟨l,vs1,k2,r1⟩:=KA k1 (hr _)
 obtain ⟨h',vs2,k3,r2⟩:=KA k2 (hr _)
 obtain ⟨m,vs3,k4,r3⟩:=KA k3 (hr _)
 obtain ⟨v',k5,hrun⟩:=UZ (P:=P) hT hr k4
 obtain ⟨hkn,k6⟩:=aG k5 (hr _)
 have key:K v' hh nx=r∧((∃ e c,(T t).k = .arr e c)→∀ id sz off len c,v' = .sl id sz off len (some c)→∃ ro n hi cs,id.get hh=some (.blk ro n hi cs)∧off+c*sz≤n):=by
  rw [aS] at k6
  split at k6
  ·obtain ⟨e1,e2⟩:=WO hr k6
   exact ⟨e1,fun _=>e2⟩
  ·rename_i hna
   refine ⟨k6,fun ⟨e,c,he⟩=>?_⟩
   first | exact (hna _ _ he).elim | (rw [he] at hna;exact absurd rfl hna) | (rw [he] at hna;exact (hna _ _ rfl).elim)
 obtain ⟨hK,hroom⟩:=key
 refine ⟨_,hK,fun g hp ρ w g1 g2 g3=>?_⟩
 have hops:o.op.operands.toList=x::(lo.toList++(hi.toList++mx.toList)):=by cases lo<;>cases hi<;>cases mx<;>simp [ho,Op.operands]
 rw [hops,List.map_cons] at g3
 obtain ⟨u,us,e1,hx,hvs⟩:=g3.inv
 simp only [List.cons.injEq] at e1
 obtain ⟨rfl,rfl⟩:=e1
 have hvs':RVL g nx.num vs ((lo.toList++(hi.toList++(mx.toList++[]))).map ρ):=by simpa using hvs
 obtain ⟨⟨kl,q1⟩,h1⟩:=r1 g nx.num ρ _ hvs'
 obtain ⟨⟨kh,q2⟩,h2⟩:=r2 g nx.num ρ _ h1
 obtain ⟨⟨km,q3⟩,h3⟩:=r3 g nx.num ρ _ h2
 obtain ⟨u',f1,f2⟩:=hrun g nx.num w _ kl kh km hx (fun e c he id sz off len cc hv=>by
  obtain ⟨ro,n,hi,cs,hg,hle⟩:=hroom ⟨e,c,he⟩ id sz off len cc hv
  obtain ⟨_,_,_,_,_,_,hn,_⟩:=g1.blk g2 hg
  omega)
 refine ⟨u',?_,f2⟩
 simp only [execOp,ho,q1,q2,q3]
 rw [Sem.run_bind,f1]
 rfl
end
end Go.Sim
namespace Go.Sim
open Go Go.RowKit
open Go.Abs (TE TK SK TOK TFacts patch size_patch patch_in patch_out)
def dR (g:Gh) (id:B) (p:Pl):Gh:=fun i=>if i=id then p else g i
def fA (hp:B→Option Obj) (id:B) (o:Option Obj):B→Option Obj:=fun i=>if i=id then o else hp i
theorem pz {g:Gh} {id:B} {p:Pl} {n:Nat} (h:n≤id.num):Ext g (dR g id p) n:=fun i hi=>by
 unfold dR
 rw [if_neg (fun e=>by rw [e] at hi;omega)]
section
variable {P:Program} {T:Nat→TE} {w0:World} {ng:Nat}
theorem lV.mono {g g':Gh} {n n':Nat} {w w':World} (he:Ext g g' n) (hn:n≤n') {id:B} (hid:id.num<n) (hw:w'.heap[(g id).b]?=w.heap[(g id).b]?) {o:Obj} (h:lV T g n w id o):lV T g' n' w' id o:=by
 have e:=he id hid
 cases o with
 | blk ro sz hi cs=>
   obtain ⟨cur,Tb,fz,h1,h2,h3,h4,h5⟩:=h
   refine ⟨cur,Tb,fz,by rw [e,hw];exact h1,h2,by rw [e];exact h3,by rw [e];exact h4,fun j v hv=>?_⟩
   obtain ⟨q1,u,q2,q3,q4⟩:=h5 j v hv
   exact ⟨q1,u,by rw [e];exact q2,q3.mono he hn,q4⟩
 | map kt es=>
   obtain ⟨ents,clock,h1,h2,h3,h4⟩:=h
   exact ⟨ents,clock,by rw [e,hw];exact h1,h2,fun i m x hm hx=>⟨(h3 i m x hm hx).1.mono he hn,(h3 i m x hm hx).2.mono he hn⟩,h4⟩
theorem lV.blk {g:Gh} {n:Nat} {w:World} {id:B} {o:Obj} (h:lV T g n w id o):(g id).b<w.heap.size:=by
 cases o with
 | blk ro sz hi cs=>obtain ⟨_,_,_,h1,_⟩:=h;exact (Array.getElem?_eq_some_iff.1 h1).1
 | map kt es=>obtain ⟨_,_,h1,_⟩:=h;exact (Array.getElem?_eq_some_iff.1 h1).1
structure Like (ng:Nat) (w w':World):Prop where
 os:w'.os=w.os
 tape:w'.tape=w.tape
 output:w'.output=w.output
 size:w.heap.size≤w'.heap.size
 dr:ng=0→w.drawn≤w'.drawn
theorem HR.add {g:Gh} {hp:B→Option Obj} {nx:B} {w w':World} (h:HR T w0 ng g hp nx w) (hl:Like ng w w') {pl:Pl} (hold:∀ b,b<w.heap.size→b≠pl.b→w'.heap[b]?=w.heap[b]?)
  (hpl:w0.heap.size≤pl.b) (hfree:∀ id o,hp id=some o→(g id).b≠pl.b) {o:Obj} (hobj:lV T (dR g nx pl) nx.inc.num w' nx o) (hng:ng≤nx.num):HR T w0 ng (dR g nx pl) (fA hp nx (some o)) nx.inc w':=by
 have hnx:=B.gV nx
 have hext:Ext g (dR g nx pl) nx.num:=pz (Nat.le_refl _)
 have hgn:dR g nx pl nx=pl:=by simp [dR]
 have hlt:∀ id o,hp id=some o→id.num<nx.num:=fun id o ho=>(h.obj id o ho).1
 have hg:∀ id o,hp id=some o→dR g nx pl id=g id:=fun id o ho=>hext id (hlt id o ho)
 have cases':∀ id o',fA hp nx (some o) id=some o'→(id=nx∧o'=o)∨(id≠nx∧hp id=some o'):=fun id o' ho=>by
  unfold fA at ho
  split at ho
  ·rename_i e;left;simp at ho;exact ⟨e,ho.symm⟩
  ·rename_i e;exact .inr ⟨e,ho⟩
 refine ⟨hl.os.trans h.os,hl.tape.trans h.tape,hl.output.trans h.output,Nat.le_trans h.size hl.size,fun b hb=>?_,fun id o' ho=>?_,fun id id' o1 o2 h1 h2 hne hro=>?_,fun id o' ho hro=>?_,fun i hi=>?_,by omega⟩
 ·rw [hold b (Nat.lt_of_lt_of_le hb h.size) (by omega)];exact h.old b hb
 ·rcases cases' id o' ho with ⟨rfl,rfl⟩ | ⟨_,ho'⟩
  ·exact ⟨by omega,hobj⟩
  ·obtain ⟨q1,q2⟩:=h.obj id o' ho'
   exact ⟨by omega,q2.mono hext (by omega) q1 (hold _ q2.blk (hfree id o' ho'))⟩
 ·rcases cases' id o1 h1 with ⟨rfl,rfl⟩ | ⟨_,h1'⟩
  ·rcases cases' id' o2 h2 with ⟨rfl,_⟩ | ⟨_,h2'⟩
   ·exact absurd rfl hne
   ·rw [hgn,hg id' o2 h2'];exact fun e=>hfree id' o2 h2' e.symm
  ·rcases cases' id' o2 h2 with ⟨rfl,_⟩ | ⟨_,h2'⟩
   ·rw [hgn,hg id o1 h1'];exact hfree id o1 h1'
   ·rw [hg id o1 h1',hg id' o2 h2'];exact h.sep id id' o1 o2 h1' h2' hne hro
 ·rcases cases' id o' ho with ⟨rfl,rfl⟩ | ⟨_,ho'⟩
  ·rw [hgn];exact hpl
  ·rw [hg id o' ho'];exact h.new id o' ho' hro
 ·rw [hext (bOf i) (by rw [xZ];omega)];exact h.glob i hi
theorem HR.drop {g:Gh} {hp:B→Option Obj} {nx:B} {w:World} (h:HR T w0 ng g hp nx w) (id:B):HR T w0 ng g (fA hp id none) nx w:=by
 have sub:∀ i o,fA hp id none i=some o→hp i=some o:=fun i o ho=>by
  unfold fA at ho
  split at ho
  ·cases ho
  ·exact ho
 exact ⟨h.os,h.tape,h.output,h.size,h.old,fun i o ho=>h.obj i o (sub i o ho),fun i i' o o' h1 h2=>h.sep i i' o o' (sub _ _ h1) (sub _ _ h2),fun i o ho=>h.new i o (sub i o ho),h.glob,h.ngx⟩
theorem HR.write {g:Gh} {hp:B→Option Obj} {nx:B} {w w':World} (h:HR T w0 ng g hp nx w) (hl:Like ng w w') {id:B} {o o':Obj} (ho:hp id=some o) (hro:o.ro=false) (hold:∀ b,b≠(g id).b→w'.heap[b]?=w.heap[b]?)
  (hobj:lV T g nx.num w' id o'):HR T w0 ng g (fA hp id (some o')) nx w':=by
 have cases':∀ i x,fA hp id (some o') i=some x→(i=id∧x=o')∨(i≠id∧hp i=some x):=fun i x hx=>by
  unfold fA at hx
  split at hx
  ·rename_i e;left;simp at hx;exact ⟨e,hx.symm⟩
  ·rename_i e;exact .inr ⟨e,hx⟩
 have hnew:=h.new id o ho hro
 refine ⟨hl.os.trans h.os,hl.tape.trans h.tape,hl.output.trans h.output,Nat.le_trans h.size hl.size,fun b hb=>?_,fun i x hx=>?_,fun i i' x y h1 h2 hne hr=>?_,fun i x hx hr=>?_,h.glob,h.ngx⟩
 ·rw [hold b (by omega)];exact h.old b hb
 ·rcases cases' i x hx with ⟨rfl,rfl⟩ | ⟨hne,hx'⟩
  ·exact ⟨(h.obj _ o ho).1,hobj⟩
  ·obtain ⟨q1,q2⟩:=h.obj i x hx'
   exact ⟨q1,q2.mono (.refl _ _) (Nat.le_refl _) q1 (hold _ (h.sep id i o x ho hx' (Ne.symm hne) hro).symm)⟩
 ·rcases cases' i x h1 with ⟨rfl,rfl⟩ | ⟨hn1,h1'⟩
  ·rcases cases' i' y h2 with ⟨rfl,_⟩ | ⟨_,h2'⟩
   ·exact absurd rfl hne
   ·exact h.sep _ i' o y ho h2' hne hro
  ·rcases cases' i' y h2 with ⟨rfl,_⟩ | ⟨_,h2'⟩
   ·exact (h.sep _ i o x ho h1' (Ne.symm hn1) hro).symm
   ·exact h.sep i i' x y h1' h2' hne hr
 ·rcases cases' i x hx with ⟨rfl,rfl⟩ | ⟨_,hx'⟩
  ·exact hnew
  ·exact h.new i x hx' hr
theorem jl {ng:Nat} (w:World) (o:Go.Obj):Like ng w (w.alloc o):=⟨rfl,rfl,rfl,by simp,fun _=>Nat.le_refl _⟩
theorem mQ {ng:Nat} (w:World) (b:Nat) (cs:Array Value):Like ng w (w.setRow b cs):=⟨rfl,rfl,rfl,by simp,fun _=>Nat.le_refl _⟩
theorem rU {t:Tr Obj} {hp:B→Option Obj} (hs:Sub t hp) (id:B) (o:Option Obj):Sub (id.put t o) (fA hp id o):=fun i x hx=>by
 rw [B.get_put] at hx
 unfold fA
 split at hx
 ·rename_i e;rw [if_pos e];exact hx
 ·rename_i e;rw [if_neg e];exact hs i x hx
theorem Step.new {g:Gh} {hp:B→Option Obj} {t:Tr Obj} {nx:B} {w w':World} (h:HR T w0 ng g hp nx w) (hs:Sub t hp) (hl:Like ng w w') {n:Nat} {o:Obj} (hold:∀ b,b<w.heap.size→w'.heap[b]?=w.heap[b]?)
  (hobj:lV T (dR g nx ⟨w.heap.size,0,n⟩) nx.inc.num w' nx o) :
  Step T w0 ng g hp t nx w (dR g nx ⟨w.heap.size,0,n⟩) (fA hp nx (some o)) (nx.put t (some o)) nx.inc w':=by
 have hnx:=B.gV nx
 refine ⟨pz (Nat.le_refl _),by omega,h.add hl (fun b hb _=>hold b hb) h.size (fun id x hx e=>?_) hobj h.ngx,rU hs _ _,fun id hi hn=>?_,fun id hi hn=>?_,hl.size,hl.dr,fun b hb _=>hold b hb,fun id o' h1 h2=>?_,fun id o' h1 h2=>?_⟩
 ·have:=(h.obj id x hx).2.blk
  simp only at e
  omega
 ·unfold fA
  rw [if_neg (fun e=>by rw [e] at hi;omega)]
 ·rw [B.get_put,if_neg (fun e=>by rw [e] at hi;omega)];exact hn
 ·rw [B.get_put] at h1
  unfold dR
  split at h1
  ·rename_i e;rw [if_pos e];exact .inl (Nat.le_refl _)
  ·rename_i e;rw [if_neg e];exact .inr ⟨id,o',h1,h2,rfl⟩
 ·unfold fA at h1
  unfold dR
  split at h1
  ·rename_i e;rw [if_pos e];exact .inl (Nat.le_refl _)
  ·exact absurd (h.obj id o' h1).1 (Nat.not_lt.2 h2)
theorem Step.write {g:Gh} {hp:B→Option Obj} {t:Tr Obj} {nx:B} {w w':World} (h:HR T w0 ng g hp nx w) (hs:Sub t hp) (hl:Like ng w w') {id:B} {o o':Obj} (ho:id.get t=some o) (hro:o.ro=false) (hold:∀ b,b≠(g id).b→w'.heap[b]?=w.heap[b]?)
  (hobj:lV T g nx.num w' id o'):Step T w0 ng g hp t nx w g (fA hp id (some o')) (id.put t (some o')) nx w':=by
 refine ⟨.refl _ _,Nat.le_refl _,h.write hl (hs id o ho) hro hold hobj,rU hs _ _,fun i hi hn=>?_,fun i hi hn=>?_,hl.size,hl.dr,fun b hb hn=>hold b (Ne.symm (hn id o ho hro)),fun i o2 h1 h2=>?_,fun i o2 h1 h2=>?_⟩
 ·unfold fA
  rw [if_neg (fun e=>by rw [e,ho] at hn;cases hn)]
 ·rw [B.get_put,if_neg (fun e=>by rw [e,ho] at hn;cases hn)];exact hn
 ·rw [B.get_put] at h1
  split at h1
  ·rename_i e;exact .inr ⟨id,o,ho,hro,by rw [e]⟩
  ·exact .inr ⟨i,o2,h1,h2,rfl⟩
 ·unfold fA at h1
  split at h1
  ·rename_i e;rw [e] at h2;exact absurd (h.obj id o (hs id o ho)).1 (Nat.not_lt.2 h2)
  ·exact absurd (h.obj i o2 h1).1 (Nat.not_lt.2 h2)
theorem Step.drop {g:Gh} {hp:B→Option Obj} {t:Tr Obj} {nx:B} {w:World} (h:HR T w0 ng g hp nx w) (hs:Sub t hp) {id:B} {o:Obj} (ho:id.get t=some o):Step T w0 ng g hp t nx w g (fA hp id none) (id.put t none) nx w:=by
 refine ⟨.refl _ _,Nat.le_refl _,h.drop id,rU hs _ _,fun i hi hn=>?_,fun i hi hn=>?_,Nat.le_refl _,fun _=>Nat.le_refl _,fun _ _ _=>rfl,fun i o2 h1 h2=>?_,fun i o2 h1 h2=>?_⟩
 ·unfold fA
  rw [if_neg (fun e=>by rw [e,ho] at hn;cases hn)]
 ·rw [B.get_put,if_neg (fun e=>by rw [e,ho] at hn;cases hn)];exact hn
 ·rw [B.get_put] at h1
  split at h1
  ·cases h1
  ·exact .inr ⟨i,o2,h1,h2,rfl⟩
 ·exact absurd ((h.drop id).obj i o2 h1).1 (Nat.not_lt.2 h2)
def CR (g:Gh) (n:Nat) (cs:Tr V) (arr:Array Value):Prop:=∀ (j:Nat) v,(bOf j).get cs=some v→∃ u,arr[j]?=some u∧RV g n v u∧u.oneCell'=true
theorem CR.lf {g:Gh} {n:Nat} {arr:Array Value}:CR g n .lf arr:=fun j v h=>by rw [B.bW] at h;cases h
theorem CR.mono {g g':Gh} {n n':Nat} {cs:Tr V} {arr:Array Value} (he:Ext g g' n) (hn:n≤n') (h:CR g n cs arr):CR g' n' cs arr:=fun j v hv=>by
 obtain ⟨u,h1,h2,h3⟩:=h j v hv
 exact ⟨u,h1,h2.mono he hn,h3⟩
theorem CR.put {g:Gh} {n:Nat} {cs:Tr V} {arr:Array Value} (h:CR g n cs arr) {vs:List V} {us:List Value} (hl:us.length=vs.length) (hr:∀ (i:Nat) c u,vs[i]?=some c→us[i]?=some u→RV g n c u∧u.oneCell'=true) {off:Nat} (hfit:off+us.length≤arr.size) :
  CR g n (eu vs cs off) (patch arr off us):=fun j v hv=>by
 rw [bT] at hv
 split at hv
 ·rename_i hj
  have hi:j-off<us.length:=by omega
  have hu:us[j-off]?=some us[j-off]:=List.getElem?_eq_getElem hi
  refine ⟨us[j-off],?_,hr _ v _ hv hu⟩
  have:=patch_in hfit hi
  rw [show off+(j-off)=j by omega] at this
  rw [this,hu]
 ·rename_i hj
  obtain ⟨u,h1,h2⟩:=h j v hv
  refine ⟨u,?_,h2⟩
  rw [patch_out hfit (by omega)];exact h1
theorem CR.AU {g:Gh} {n:Nat} {vs:List V} {us:List Value} (hl:us.length=vs.length) (hr:∀ (i:Nat) c u,vs[i]?=some c→us[i]?=some u→RV g n c u∧u.oneCell'=true) {arr:Array Value} (ha:∀ i,i<us.length→arr[i]?=us[i]?):CR g n (eu vs .lf 0) arr:=fun j v hv=>by
 rw [bT] at hv
 split at hv
 ·rename_i hj
  simp only [Nat.sub_zero] at hv
  have hi:j<us.length:=by omega
  exact ⟨us[j],by rw [ha j hi];exact List.getElem?_eq_getElem hi,hr _ v _ hv (List.getElem?_eq_getElem hi)⟩
 ·rw [B.bW] at hv;cases hv
theorem wQ {vs:List V} {cs:Tr V} {off m:Nat} (h:∀ j v,(bOf j).get cs=some v→j<m) (hm:off+vs.length≤m):∀ j v,(bOf j).get (eu vs cs off)=some v→j<m:=fun j v hv=>by
 rw [bT] at hv
 split at hv
 ·omega
 ·exact h j v hv
theorem RD {m:Nat}:∀ j v,(bOf j).get (.lf:Tr V)=some v→j<m:=fun j v h=>by rw [B.bW] at h;cases h
theorem Rw {g:Gh} {hp:B→Option Obj} {t:Tr Obj} {nx:B} {w w':World} (h:HR T w0 ng g hp nx w) (hs:Sub t hp) (hl:Like ng w w') {cur:Array Value} {Tb:TypeId} (hw:w'.heap[w.heap.size]?=some (.cells cur Tb (0,0)))
  (hold:∀ b,b<w.heap.size→w'.heap[b]?=w.heap[b]?) {cs:Tr V} {m:Nat} (hc:CR g nx.num cs cur) (hm:m≤cur.size) (hlt:∀ j v,(bOf j).get cs=some v→j<m) :
  Step T w0 ng g hp t nx w (dR g nx ⟨w.heap.size,0,cur.size⟩) (fA hp nx (some (.blk false m m cs))) (nx.put t (some (.blk false m m cs))) nx.inc w':=by
 have hext:Ext g (dR g nx ⟨w.heap.size,0,cur.size⟩) nx.num:=pz (Nat.le_refl _)
 have hgn:dR g nx ⟨w.heap.size,0,cur.size⟩ nx=⟨w.heap.size,0,cur.size⟩:=by simp [dR]
 refine .new h hs hl hold ⟨cur,Tb,(0,0),by rw [hgn];exact hw,fun _=>rfl,by rw [hgn];simp,by rw [hgn];exact hm,fun j v hv=>?_⟩
 obtain ⟨u,h1,h2,h3⟩:=hc j v hv
 exact ⟨hlt j v hv,u,by rw [hgn];simpa using h1,h2.mono hext (by rw [B.gV];omega),h3⟩
theorem gW {R:Type} (sz:Nat) (cs:Tr V) (t:Tr Obj) (nx:B) (K:Tr Obj→B→R):o7 sz cs t nx K=K (nx.put t (some (.blk false sz sz cs))) nx.inc:=by
 unfold o7
 rw [B.eP,B.Jl]
theorem CX {cs:List V} {t:Tr Obj} {nx:B} {K:KV} {r:R} (hr:∀ n,R.bad n≠r) (h:mkVar cs t nx K=r) :
  List.all cs one=true∧K (.ptr nx 0) (nx.put t (some (.blk false cs.length cs.length (eu cs .lf 0)))) nx.inc=r:=by
 obtain ⟨h1,h2⟩:=aG h (hr _)
 rw [dX,aH,gW] at h2
 exact ⟨h1,h2⟩
theorem KT {g:Gh} {hp:B→Option Obj} {t:Tr Obj} {nx:B} {w:World} (h:HR T w0 ng g hp nx w) (hs:Sub t hp) {v:V} {u:Value} (hv:RV g nx.num v u) (h1:List.all (cellsOf v) one=true) (Tb:TypeId) :
  ∃ g' hp',Step T w0 ng g hp t nx w g' hp' (nx.put t (some (.blk false (cellsOf v).length (cellsOf v).length (eu (cellsOf v) .lf 0)))) nx.inc (w.alloc (.cells u.cells Tb)) ∧
    RV g' nx.inc.num (.ptr nx 0) (.pointer (some ⟨w.heap.size,0,none⟩)):=by
 obtain ⟨q1,q2⟩:=hv.cells h1
 have hc:CR g nx.num (eu (cellsOf v) .lf 0) u.cells:=CR.AU (us:=u.cells.toList) (by simpa using q1) (fun i c x hc hx=>q2 i c x hc (by simpa using hx)) (fun i hi=>by simp)
 have st:=Rw (T:=T) h hs (jl w (.cells u.cells Tb)) (heap_alloc_new w _) (fun b hb=>heap_alloc_old w _ b hb) hc (m:=(cellsOf v).length) (by omega) (wQ RD (by omega))
 refine ⟨_,_,st,?_⟩
 have:=RV.ptr (g:=dR g nx ⟨w.heap.size,0,u.cells.size⟩) (n:=nx.inc.num) nx 0 (by rw [B.gV];omega)
 simpa [dR] using this
theorem Vy (hT:TOK P T) {o:Oper} {t:Nat} (ho:o.op = .alloc t):HOK P T w0 ng o (PK t):=by
 intro call _ vals hh nx K r hr h
 obtain ⟨hkn,k1⟩:=aG h (hr _)
 obtain ⟨h1,k2⟩:=CX hr k1
 obtain ⟨d,i,hf⟩:=hT.facts (Abs.TE.aK hkn)
 refine ⟨_,_,_,k2,.of_run fun g hp ρ w g1 g2 g3=>?_⟩
 obtain ⟨g',hp',st,hv⟩:=KT g1 g2 (tZ g nx.num (T t).zero) h1 t
 exact ⟨_,_,g',hp',.inl (by simp [execOp,ho,Instr.alloc,zeroValue,typeInfo,hf.info,hf.zero,newVar,Go.newRow]),st,hv⟩
theorem acC {o:Oper} {t:Nat} {x:Operand} (ho:o.op = .box t x):HOK P T w0 ng o akU:=by
 intro call _ vals hh nx K r hr h
 obtain ⟨v,rfl,k1⟩:=lG h (hr _)
 obtain ⟨h1,k2⟩:=CX hr k1
 refine ⟨_,_,_,k2,.of_run fun g hp ρ w g1 g2 g3=>?_⟩
 have hx:=nD (x:=x) (by simp [ho,Op.operands]) g3
 obtain ⟨g',hp',st,hv⟩:=KT g1 g2 hx h1 t
 exact ⟨_,_,g',hp',.inl (by simp [execOp,ho,Instr.box,newVar,Go.newRow]),st,hv⟩
theorem qH {R:Type} {id:B} {off:Nat} {vs:List V} {t:Tr Obj} {K:Tr Obj→R} {e r:R} (h:qI id off vs t K e=r) (he:e≠r) :
  ∃ sz hi cs,id.get t=some (.blk false sz hi cs)∧off+vs.length≤sz∧List.all vs one=true∧K (id.put t (some (.blk false sz (max hi (off+vs.length)) (eu vs cs off))))=r:=by
 obtain ⟨ro,sz,hi,cs,h1,h2⟩:=fO h he
 rw [aS] at h2
 split at h2
 ·exact absurd h2 he
 ·rename_i hro
  have hro:ro=false:=by simpa using hro
  subst hro
  rw [aH] at h2
  obtain ⟨h3,h4⟩:=aG h2 he
  obtain ⟨h5,h6⟩:=aB h3
  rw [dX,aH,B.eP] at h4
  exact ⟨sz,hi,cs,h1,aX.1 h5,h6,h4⟩
theorem wM {g:Gh} {hp:B→Option Obj} {t:Tr Obj} {nx:B} {w:World} (h:HR T w0 ng g hp nx w) (hs:Sub t hp) {id:B} {sz hi:Nat} {cs:Tr V} (hg:id.get t=some (.blk false sz hi cs)) {off:Nat} {vs:List V} {us:List Value} (hl:us.length=vs.length)
  (hr:∀ (i:Nat) c u,vs[i]?=some c→us[i]?=some u→RV g nx.num c u∧u.oneCell'=true) (hfit:off+vs.length≤sz) :
  ∃ cur Tb,w.heap[(g id).b]?=some (.cells cur Tb (0,0))∧(g id).o+off+us.length≤cur.size ∧
    Step T w0 ng g hp t nx w g (fA hp id (some (.blk false sz (max hi (off+vs.length)) (eu vs cs off)))) (id.put t (some (.blk false sz (max hi (off+vs.length)) (eu vs cs off)))) nx (w.setRow (g id).b (patch cur ((g id).o+off) us)):=by
 obtain ⟨cur,Tb,fz,e1,e2,e3,e4,e5⟩:=h.blk hs hg
 have e2:=e2 rfl
 subst e2
 have hfit':(g id).o+off+us.length≤cur.size:=by omega
 refine ⟨cur,Tb,e1,hfit',.write h hs (mQ _ _ _) hg rfl (fun b hb=>setRow_other w _ b _ hb) ⟨patch cur ((g id).o+off) us,Tb,(0,0),setRow_heap w _ cur _ Tb (0,0) e1,fun _=>rfl,by rw [size_patch hfit'];exact e3,e4,fun j v hv=>?_⟩⟩
 rw [bT] at hv
 split at hv
 ·rename_i hj
  have hi:j-off<us.length:=by omega
  have hu:us[j-off]?=some us[j-off]:=List.getElem?_eq_getElem hi
  refine ⟨by omega,us[j-off],?_,hr _ v _ hv hu⟩
  have:=patch_in hfit' hi
  rw [show (g id).o+off+(j-off)=(g id).o+j by omega] at this
  rw [this,hu]
 ·rename_i hj
  obtain ⟨q1,u,q2,q3⟩:=e5 j v hv
  refine ⟨by omega,u,?_,q3⟩
  rw [patch_out hfit' (by omega)];exact q2
theorem Vu (hT:TOK P T) {o:Oper} {t:Nat} {x y:Operand} (ho:o.op = .store t x y):HOK P T w0 ng o (Du t):=by
 intro call _ vals hh nx K r hr h
 obtain ⟨p,v,rfl,k1⟩:=mV h (hr _)
 obtain ⟨id,off,rfl,k2⟩:=jM k1 (hr _)
 obtain ⟨hb,k3⟩:=aG k2 (hr _)
 obtain ⟨hkn,hsz⟩:=aB hb
 obtain ⟨sz,hi,cs,hg,hfit,h1,k4⟩:=qH k3 (hr _)
 obtain ⟨d,i,hf⟩:=hT.facts (Abs.TE.aK hkn)
 have hsz':=beq_iff.1 hsz
 refine ⟨_,_,_,k4,.of_run fun g hp ρ w g1 g2 g3=>?_⟩
 obtain ⟨hx,hy⟩:=qE (x:=x) (y:=y) (by simp [ho,Op.operands]) g3
 obtain ⟨q1,q2⟩:=hy.cells h1
 generalize hvx:ρ x=vx at hx
 cases hx
 obtain ⟨cur,Tb,e1,e2,st⟩:=wM g1 g2 hg (us:=(ρ y).cells.toList) (by simpa using q1) (fun i c u hc hu=>q2 i c u hc (by simpa using hu)) hfit
 have hrun:=Abs.kC (P:=P) w hf (g id).b ((g id).o+off) cur Tb e1 (ρ y) (by omega) (by simpa using e2) (fun u hu=>by
  obtain ⟨j,hj⟩:=List.getElem?_of_mem hu
  have hjl:j<(cellsOf v).length:=by rw [← q1];have:=(List.getElem?_eq_some_iff.1 hj).1;simpa using this
  exact (q2 j _ u (List.getElem?_eq_getElem hjl) (by simpa using hj)).2)
 exact ⟨undef,_,_,_,.inr ⟨by simp [execOp,ho,hvx,hrun],rfl⟩,st,.any _⟩
end
end Go.Sim
