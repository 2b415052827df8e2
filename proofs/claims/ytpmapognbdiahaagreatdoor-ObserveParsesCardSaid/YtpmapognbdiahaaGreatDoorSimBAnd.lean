/- Sim: what the trees, the eliminators and the numbers do. -/
import Derived.Test.YtpmapognbdiahaaGreatDoorSimAOne
set_option linter.all false
namespace Go.Sim
open Go
open Go.Abs (TE TK SK)
def B.num (k:B):Nat:=k.n
theorem B.eG:∀ {a b:B},a.num=b.num→a=b
 | ⟨_⟩,⟨_⟩,h=>congrArg B.mk h
def B.inc (k:B):B:=⟨k.n+1⟩
theorem B.fO (b:B):b.inc.num=b.num+1:=rfl
theorem B.E8 {R:Type} (k:B) (K:B→R):k.XZ K=K k.inc:=rfl
theorem qx (n:Nat):(bOf n).num=n:=rfl
theorem lF {m n:Nat} (h:bOf m=bOf n):m=n:=by rw [← qx m,h,qx n]
section
variable {α R:Type}
theorem B.eu (k:B) (t:Tr α) (v:Option α) (K:Tr α→R):k.jv t v K=K (k.put t v):=ofT α R k.n t v K
theorem B.dO (k:B):k.get (.lf:Tr α)=none:=lfT α k.n
theorem B.bU (k:B) (t:Tr α) (v:Option α):k.get (k.put t v)=v:=(okT α k.n).gp t v
theorem B.iZ (k k':B) (t:Tr α) (v:Option α) (h:k'≠k):k'.get (k.put t v)=k'.get t:=akn α (fun e=>h (B.eG e)) t v
theorem B.get_put (k k':B) (t:Tr α) (v:Option α):k'.get (k.put t v)=if k'=k then v else k'.get t:=by
 by_cases h:k'=k
 ·rw [if_pos h,h];exact B.bU k t v
 ·rw [if_neg h];exact B.iZ k k' t v h
theorem aI (m:Nat) (K:Nat→R):aT m K=K m:=by cases m<;>rfl
theorem fM (n:Int) (K:Int→R):kE n K=K n:=by cases n<;>exact aI _ _
theorem bF (b:Bool) (K:Bool→R):dI b K=K b:=by cases b<;>rfl
theorem aQ (b:Bool) (x y:R):aJ b x y=if b=true then x else y:=by cases b<;>rfl
theorem aG {b:Bool} {x y r:R} (h:aJ b x y=r) (hy:y≠r):b=true∧x=r:=by
 cases b
 ·exact absurd h hy
 ·exact ⟨rfl,h⟩
theorem jQ:∀ (l:List V) (K:List V→R),vX l K=K l
 | [],_=>rfl
 | v::vs,K=>jQ vs fun r=>K (v::r)
theorem Dx (v:V) (K:V→R):KT v K=K v:=by
 cases v<;>first | rfl | exact jQ _ _
theorem iU (n:Nat) (x y:R):isZero n x y=if n=0 then x else y:=by cases n<;>rfl
end
noncomputable def eH (cs:Tr V):(off n:Nat)→Option (List V)
 | _,0=>some []
 | off,n+1=>match (bOf off).get cs,eH cs (off+1) n with
   | some v,some vs=>some (v::vs)
   | _,_=>none
section
variable {R:Type}
theorem Oe (cs:Tr V):∀ (n off:Nat) (K:List V→R) (e:R),rM n cs off K e=match eH cs off n with | some vs=>K vs | none=>e
 | 0,_,_,_=>rfl
 | n+1,off,K,e=>by
   show (Option.rec (motive:=fun _=>R) e (fun v=>rM n cs (off+1) (fun vs=>K (v::vs)) e) ((bOf off).get cs))=_;unfold eH;cases h:(bOf off).get cs with
   | none=>rfl
   | some v=>
     show rM n cs (off+1) (fun vs=>K (v::vs)) e=_;rw [Oe cs n (off+1)];cases eH cs (off+1) n<;>rfl
theorem jJ {cs:Tr V} {n off:Nat} {K:List V→R} {e r:R} (h:rM n cs off K e=r) (he:e≠r):∃ vs,eH cs off n=some vs∧K vs=r:=by
 rw [Oe] at h;cases hc:eH cs off n with
 | none=>rw [hc] at h;exact absurd h he
 | some vs=>rw [hc] at h;exact ⟨vs,rfl,h⟩
theorem dW {cs:Tr V}:∀ {n off:Nat} {vs:List V},eH cs off n=some vs→vs.length=n∧∀ j,j<n→(bOf (off+j)).get cs=vs[j]?
 | 0,_,vs,h=>by simp [eH] at h;subst h;exact ⟨rfl,fun j hj=>absurd hj (Nat.not_lt_zero j)⟩
 | n+1,off,vs,h=>by
   unfold eH at h;split at h
   ·rename_i v vs' h1 h2;obtain ⟨i1,i2⟩:=dW h2;simp at h;subst h;refine ⟨by simp [i1],fun j hj=>?_⟩;cases j with
    | zero=>simpa using h1
    | succ j=>rw [show off+(j+1)=off+1+j by omega,i2 j (by omega)];simp
   ·cases h
noncomputable def fB:List V→Tr V→Nat→Tr V
 | [],cs,_=>cs
 | v::vs,cs,off=>fB vs ((bOf off).put cs (some v)) (off+1)
theorem dS:∀ (vs:List V) (cs:Tr V) (off:Nat) (K:Tr V→R),l9 vs cs off K=K (fB vs cs off)
 | [],_,_,_=>rfl
 | v::vs,cs,off,K=>by
   show (bOf off).jv cs (some v) (fun cs'=>l9 vs cs' (off+1) K)=_;rw [B.eu,dS vs];rfl
theorem bY:∀ (vs:List V) (cs:Tr V) (off i:Nat),(bOf i).get (fB vs cs off)=if off≤i∧i<off+vs.length then vs[i-off]? else (bOf i).get cs
 | [],cs,off,i=>by rw [if_neg (by simp only [List.length_nil];omega)];rfl
 | v::vs,cs,off,i=>by
   show (bOf i).get (fB vs ((bOf off).put cs (some v)) (off+1))=_;rw [bY vs _ (off+1) i,B.get_put];by_cases h1:off+1≤i∧i<off+1+vs.length
   ·rw [if_pos h1,if_pos (by simp;omega),show i-off=(i-(off+1))+1 by omega];simp
   ·rw [if_neg h1];by_cases h2:i=off
    ·subst h2;rw [if_pos rfl,if_pos (by simp)];simp
    ·rw [if_neg (fun e=>h2 (lF e)),if_neg (by simp;omega)]
def rep:Nat→List V→List V
 | 0,_=>[]
 | m+1,vs=>vs++rep m vs
theorem sQ:∀ (m:Nat) (vs:List V) (K:List V→R),P5 m vs K=K (rep m vs)
 | 0,_,_=>rfl
 | m+1,vs,K=>by
   show P5 m vs (fun r=>K (vs++r))=_;rw [sQ m];rfl
theorem iC:∀ (m:Nat) (vs:List V),(rep m vs).length=m*vs.length
 | 0,_=>by simp [rep]
 | m+1,vs=>by simp only [rep,List.length_append,iC m,Nat.succ_mul];omega
theorem yh:∀ (m:Nat) (vs:List V) (i:Nat),0<vs.length→i<m*vs.length→(rep m vs)[i]?=vs[i % vs.length]?
 | 0,vs,i,_,h=>by simp at h
 | m+1,vs,i,hp,h=>by
   simp only [rep];by_cases hi:i<vs.length
   ·rw [List.getElem?_append_left hi,Nat.mod_eq_of_lt hi]
   ·rw [List.getElem?_append_right (by omega),yh m vs _ hp (by rw [Nat.succ_mul] at h;omega)];rw [Nat.mod_eq_sub_mod (by omega:i≥vs.length)]
theorem qy {v:V} {K:Bool→R} {e r:R} (h:asBool v K e=r) (he:e≠r):∃ x0,v = .bool x0∧K x0=r:=by
 cases v<;>first | exact absurd h he | exact ⟨_,rfl,h⟩
theorem QZ {v:V} {K:Bool→R} {e r:R} (h:asBool v K e=r):(∃ x0,v = .bool x0∧K x0=r)∨((∀ x0,v ≠ .bool x0)∧e=r):=by
 cases v<;>first | exact .inl ⟨_,rfl,h⟩ | exact .inr ⟨fun _=>nofun,h⟩
theorem dH {v:V} {K:IntKind→Int→R} {e r:R} (h:asInt v K e=r) (he:e≠r):∃ x0 x1,v = .int x0 x1∧K x0 x1=r:=by
 cases v<;>first | exact absurd h he | exact ⟨_,_,rfl,h⟩
theorem fJ {v:V} {K:Nat→Nat→R} {e r:R} (h:jo v K e=r) (he:e≠r):∃ x0 x1,v = .str x0 x1∧K x0 x1=r:=by
 cases v<;>first | exact absurd h he | exact ⟨_,_,rfl,h⟩
theorem jq {v:V} {K:B→Nat→R} {e r:R} (h:jr v K e=r) (he:e≠r):∃ x0 x1,v = .ptr x0 x1∧K x0 x1=r:=by
 cases v<;>first | exact absurd h he | exact ⟨_,_,rfl,h⟩
theorem WE {v:V} {K:B→Nat→R} {e r:R} (h:jr v K e=r):(∃ x0 x1,v = .ptr x0 x1∧K x0 x1=r)∨((∀ x0 x1,v ≠ .ptr x0 x1)∧e=r):=by
 cases v<;>first | exact .inl ⟨_,_,rfl,h⟩ | exact .inr ⟨fun _ _=>nofun,h⟩
theorem uN {v:V} {K:B→Nat→Nat→Nat→Option Nat→R} {e r:R} (h:mZ v K e=r) (he:e≠r):∃ x0 x1 x2 x3 x4,v = .sl x0 x1 x2 x3 x4∧K x0 x1 x2 x3 x4=r:=by
 cases v<;>first | exact absurd h he | exact ⟨_,_,_,_,_,rfl,h⟩
theorem ji {v:V} {K:B→Nat→Nat→Nat→Option Nat→R} {e r:R} (h:mZ v K e=r):(∃ x0 x1 x2 x3 x4,v = .sl x0 x1 x2 x3 x4∧K x0 x1 x2 x3 x4=r)∨((∀ x0 x1 x2 x3 x4,v ≠ .sl x0 x1 x2 x3 x4)∧e=r):=by
 cases v<;>first | exact .inl ⟨_,_,_,_,_,rfl,h⟩ | exact .inr ⟨fun _ _ _ _ _=>nofun,h⟩
theorem Aw {v:V} {K:B→R} {e r:R} (h:Az v K e=r) (he:e≠r):∃ x0,v = .map x0∧K x0=r:=by
 cases v<;>first | exact absurd h he | exact ⟨_,rfl,h⟩
theorem Je {v:V} {K:B→R} {e r:R} (h:Az v K e=r):(∃ x0,v = .map x0∧K x0=r)∨((∀ x0,v ≠ .map x0)∧e=r):=by
 cases v<;>first | exact .inl ⟨_,rfl,h⟩ | exact .inr ⟨fun _=>nofun,h⟩
theorem yx {v:V} {K:Nat→List V→List V→R} {e r:R} (h:La v K e=r) (he:e≠r):∃ x0 x1 x2,v = .fn x0 x1 x2∧K x0 x1 x2=r:=by
 cases v<;>first | exact absurd h he | exact ⟨_,_,_,rfl,h⟩
theorem ni {v:V} {K:List V→R} {e r:R} (h:asAgg v K e=r) (he:e≠r):∃ x0,v = .agg x0∧K x0=r:=by
 cases v<;>first | exact absurd h he | exact ⟨_,rfl,h⟩
theorem WC {v:V} {K:List V→R} {e r:R} (h:Au v K e=r) (he:e≠r):∃ x0,v = .tup x0∧K x0=r:=by
 cases v<;>first | exact absurd h he | exact ⟨_,rfl,h⟩
theorem iI {v:V} {K:V→R} {e r:R} (h:qO v K e=r) (he:e≠r):(v = .aj∨v = .gq)∧K v=r:=by
 cases v<;>first | exact absurd h he | exact ⟨.inl rfl,h⟩ | exact ⟨.inr rfl,h⟩
theorem Dh {v:V} {x e r:R} (h:KA v x e=r) (he:e≠r):v = .gU∧x=r:=by
 cases v<;>first | exact absurd h he | exact ⟨rfl,h⟩
theorem ku {l:List V} {K:V→R} {e r:R} (h:l1 l K e=r) (he:e≠r):∃ a,l=[a]∧K a=r:=by
 rcases l with _ | ⟨a,_ | ⟨b,l⟩⟩<;>first | exact absurd h he | exact ⟨_,rfl,h⟩
theorem lq {l:List V} {K:V→V→R} {e r:R} (h:l2 l K e=r) (he:e≠r):∃ a b,l=[a,b]∧K a b=r:=by
 rcases l with _ | ⟨a,_ | ⟨b,_ | ⟨c,l⟩⟩⟩<;>first | exact absurd h he | exact ⟨_,_,rfl,h⟩
theorem NG {l:List V} {K:V→V→V→R} {e r:R} (h:l3 l K e=r) (he:e≠r):∃ a b c,l=[a,b,c]∧K a b c=r:=by
 rcases l with _ | ⟨a,_ | ⟨b,_ | ⟨c,_ | ⟨d,l⟩⟩⟩⟩<;>first | exact absurd h he | exact ⟨_,_,_,rfl,h⟩
theorem ND {l:List V} {K:V→List V→R} {e r:R} (h:lc l K e=r) (he:e≠r):∃ a b,l=a::b∧K a b=r:=by
 rcases l with _ | ⟨a,l⟩<;>first | exact absurd h he | exact ⟨_,_,rfl,h⟩
theorem fK {o:Option Obj} {K:Bool→Nat→Nat→Tr V→R} {e r:R} (h:iP o K e=r) (he:e≠r):∃ ro sz hi cs,o=some (.blk ro sz hi cs)∧K ro sz hi cs=r:=by
 rcases o with _ | ⟨ro,sz,hi,cs⟩ | ⟨kt,es⟩<;>first | exact absurd h he | exact ⟨_,_,_,_,rfl,h⟩
theorem uP {o:Option Obj} {K:Nat→List (V×V)→R} {e r:R} (h:QY o K e=r) (he:e≠r):∃ kt es,o=some (.map kt es)∧K kt es=r:=by
 rcases o with _ | ⟨ro,sz,hi,cs⟩ | ⟨kt,es⟩<;>first | exact absurd h he | exact ⟨_,_,rfl,h⟩
theorem eF {α:Type} {o:Option α} {K:α→R} {e r:R} (h:jy o K e=r) (he:e≠r):∃ v,o=some v∧K v=r:=by
 cases o<;>first | exact absurd h he | exact ⟨_,rfl,h⟩
theorem iY {i:Int} {len:Nat} {K:Nat→R} {e r:R} (h:inB i len K e=r) (he:e≠r):∃ m:Nat,i=m∧m<len∧K m=r:=by
 cases i with
 | ofNat m=>
   obtain ⟨h1,h2⟩:=aG (b:=Nat.blt m len) h he;exact ⟨m,rfl,Nat.le_of_ble_eq_true h1,h2⟩
 | negSucc m=>exact absurd h he
end
theorem aB {a b:Bool} (h:and a b=true):a=true∧b=true:=by cases a<;>cases b<;>simp_all
theorem jI {k k':IntKind} (h:Nat.beq (ikN k) (ikN k')=true):k=k':=by
 cases k<;>cases k'<;>first | rfl | exact absurd h (by decide)
theorem agA {n:Nat} {x:X} {env:Tr V} {t:Tr Obj} {nx:B}:R.bad n≠R.ok x env t nx:=fun h=>by cases h
end Go.Sim
namespace Go.Sim
open Go
def aU:List UInt8→Nat
 | []=>0
 | b::bs=>b.toNat*2 ^ (8*bs.length)+aU bs
theorem DZ:∀ (s:List UInt8) (acc:Nat),Am s acc=acc*2 ^ (8*s.length)+aU s
 | [],acc=>by simp [Am,aU]
 | b::bs,acc=>by
   simp only [Am,DZ bs,aU,List.length_cons];have h2:2 ^ (8*(bs.length+1))=256*2 ^ (8*bs.length):=(by rw [Nat.mul_succ,Nat.pow_add,Nat.mul_comm]);rw [Nat.add_mul,h2,← Nat.mul_assoc];omega
theorem nD:∀ s:List UInt8,aU s<2 ^ (8*s.length)
 | []=>by simp [aU]
 | b::bs=>by
   have h:=nD bs;have hb:b.toNat<256:=b.toNat_lt;simp only [aU,List.length_cons];rw [Nat.mul_succ,Nat.pow_add];have h1:b.toNat*2 ^ (8*bs.length)≤255*2 ^ (8*bs.length):=Nat.mul_le_mul_right _ (by omega);have h2:2 ^ (8*bs.length)*2 ^ 8=256*2 ^ (8*bs.length):=(by rw [Nat.mul_comm]);omega
theorem dQ:∀ s s':List UInt8,aU (s++s')=aU s*2 ^ (8*s'.length)+aU s'
 | [],s'=>by simp [aU]
 | b::bs,s'=>by
   simp only [List.cons_append,aU,dQ bs s',List.length_append];rw [Nat.mul_add 8,Nat.pow_add,Nat.add_mul,Nat.mul_assoc];omega
theorem lY:∀ {s s':List UInt8},s.length=s'.length→aU s=aU s'→s=s'
 | [],[],_,_=>rfl
 | [],_::_,h,_=>by simp at h
 | _::_,[],h,_=>by simp at h
 | b::bs,c::cs,h,hv=>by
   have hl:bs.length=cs.length:=(by simpa using h);simp only [aU] at hv;rw [hl] at hv;have h1:=nD bs;have h2:=nD cs;rw [hl] at h1;have hp:0<2 ^ (8*cs.length):=Nat.two_pow_pos _;have hb:b.toNat=c.toNat:=by
    have e1:(b.toNat*2 ^ (8*cs.length)+aU bs) / 2 ^ (8*cs.length)=b.toNat:=by
     rw [Nat.mul_comm,Nat.mul_add_div hp,Nat.div_eq_of_lt h1];rfl
    have e2:(c.toNat*2 ^ (8*cs.length)+aU cs) / 2 ^ (8*cs.length)=c.toNat:=by
     rw [Nat.mul_comm,Nat.mul_add_div hp,Nat.div_eq_of_lt h2];rfl
    rw [← e1,hv,e2]
   have hv':aU bs=aU cs:=(by rw [hb] at hv;omega);rw [lY hl hv',UInt8.toNat_inj.1 hb]
theorem Bq (s:List UInt8) (h:Nat):aU (s.take h)=aU s / 2 ^ (8*(s.length-h)):=by
 have e:=dQ (s.take h) (s.drop h);rw [List.take_append_drop] at e;have hl:(s.drop h).length=s.length-h:=List.length_drop;have hlt:=nD (s.drop h);rw [hl] at e hlt;rw [e,Nat.mul_comm,Nat.mul_add_div (Nat.two_pow_pos _),Nat.div_eq_of_lt hlt];rfl
theorem PK (s:List UInt8) (l:Nat):aU (s.drop l)=aU s % 2 ^ (8*(s.length-l)):=by
 have e:=dQ (s.take l) (s.drop l);rw [List.take_append_drop] at e;have hl:(s.drop l).length=s.length-l:=List.length_drop;have hlt:=nD (s.drop l);rw [hl] at e hlt;rw [e,Nat.mul_comm,Nat.mul_add_mod,Nat.mod_eq_of_lt hlt]
theorem GH (s:List UInt8) (i:Nat) (c:UInt8) (hc:s[i]?=some c):aU s / 2 ^ (8*(s.length-1-i)) % 256=c.toNat:=by
 obtain ⟨hi,hci⟩:=List.getElem?_eq_some_iff.1 hc;have e1:=Bq s (i+1);rw [show s.length-1-i=s.length-(i+1) by omega,← e1,List.take_succ_eq_append_getElem hi,dQ,hci];simp only [List.length_cons,List.length_nil,aU];rw [show (8*(0+1))=8 by rfl];have:c.toNat<256:=c.toNat_lt;rw [show (2:Nat) ^ 8=256 by rfl];simp
theorem PI (a b:Bool):and a b=true↔a=true∧b=true:=by cases a<;>cases b<;>simp
theorem sD (s s':List UInt8):strEq s.length (aU s) s'.length (aU s')=(s==s'):=by
 rw [Bool.eq_iff_iff];unfold strEq;rw [PI];constructor
 ·rintro ⟨h1,h2⟩;rw [lY (Nat.eq_of_beq_eq_true h1) (Nat.eq_of_beq_eq_true h2)];simp
 ·intro h;have:s=s':=by simpa using h
  subst this;exact ⟨Nat.beq_refl _,Nat.beq_refl _⟩
theorem jh:∀ (s s':List UInt8),Op.bytesLess s s'=true ↔
  (aU s*2 ^ (8*(s'.length-s.length))<aU s'*2 ^ (8*(s.length-s'.length)) ∨
   (aU s*2 ^ (8*(s'.length-s.length))=aU s'*2 ^ (8*(s.length-s'.length))∧s.length<s'.length))
 | s,[]=>by cases s<;>simp [Op.bytesLess,aU]
 | [],b::bs=>by
   simp only [Op.bytesLess,aU,Nat.zero_mul,List.length_nil,List.length_cons,Nat.zero_sub,Nat.mul_zero,Nat.pow_zero,Nat.mul_one,true_iff];omega
 | a::x,b::y=>by
   have ih:=jh x y;have hx:=nD x;have hy:=nD y;simp only [Op.bytesLess,aU,List.length_cons,Nat.add_sub_add_right];rw [Bool.or_eq_true,Bool.and_eq_true,decide_eq_true_eq,beq_iff_eq,ih,UInt8.lt_iff_toNat_lt];generalize hm:2 ^ (8*(y.length-x.length))=p at *;generalize hn:2 ^ (8*(x.length-y.length))=q at *;have hpq:2 ^ (8*x.length)*p=2 ^ (8*y.length)*q:=by
    rw [← hm,← hn,← Nat.pow_add,← Nat.pow_add];congr 1;omega
   have hp:0<p:=(by rw [← hm];exact Nat.two_pow_pos _);have hq:0<q:=(by rw [← hn];exact Nat.two_pow_pos _);have hx':aU x*p<2 ^ (8*x.length)*p:=Nat.mul_lt_mul_of_pos_right hx hp;have hy':aU y*q<2 ^ (8*x.length)*p:=(by rw [hpq];exact Nat.mul_lt_mul_of_pos_right hy hq);rw [Nat.add_mul,Nat.add_mul,Nat.mul_assoc,Nat.mul_assoc,← hpq];generalize 2 ^ (8*x.length)*p=Z at *;generalize aU x*p=u at *;generalize aU y*q=v at *;have hlen:x.length+1<y.length+1↔x.length<y.length:=(by omega);rw [hlen];rcases Nat.lt_trichotomy a.toNat b.toNat with h | h | h
   ·have:(a.toNat+1)*Z≤b.toNat*Z:=Nat.mul_le_mul_right _ h;rw [Nat.succ_mul] at this;constructor
    ·intro _;left;omega
    ·intro _;exact .inl h
   ·have hab:a=b:=UInt8.toNat_inj.1 h;subst hab;constructor
    ·rintro (h1 | ⟨_,h1⟩)
     ·omega
     ·omega
    ·intro h1;right;exact ⟨rfl,by omega⟩
   ·have:(b.toNat+1)*Z≤a.toNat*Z:=Nat.mul_le_mul_right _ h;rw [Nat.succ_mul] at this;constructor
    ·rintro (h1 | ⟨h1,_⟩)
     ·omega
     ·subst h1;omega
    ·rintro (h1 | ⟨h1,_⟩)<;>omega
theorem TA (a b:Bool):or a b=true↔a=true∨b=true:=by cases a<;>cases b<;>simp
theorem aN {a b:Nat}:Nat.blt a b=true↔a<b:=⟨Nat.le_of_ble_eq_true,fun h=>Nat.ble_eq_true_of_le h⟩
theorem beq_iff {a b:Nat}:Nat.beq a b=true↔a=b:=⟨Nat.eq_of_beq_eq_true,fun h=>h ▸ Nat.beq_refl a⟩
theorem aY {a b:Nat}:Nat.ble a b=true↔a≤b:=⟨Nat.le_of_ble_eq_true,Nat.ble_eq_true_of_le⟩
theorem lZ (s s':List UInt8):strLt s.length (aU s) s'.length (aU s')=Op.bytesLess s s':=by
 rw [Bool.eq_iff_iff,jh];unfold strLt;rw [TA,PI,aN,beq_iff,aN];show Nat.shiftLeft _ (8*_)<Nat.shiftLeft _ (8*_)∨Nat.shiftLeft _ (8*_)=Nat.shiftLeft _ (8*_)∧_↔_;have e:∀ a b,Nat.shiftLeft a b=a*2 ^ b:=fun a b=>Nat.shiftLeft_eq a b
 rw [e,e];exact Iff.rfl
theorem oq (s s':List UInt8):(Op.bytesLess s s'||s==s')=!Op.bytesLess s' s:=by
 have h1:=jh s s';have h2:=jh s' s;have hv:=@lY s s';rw [Bool.eq_iff_iff,Bool.or_eq_true,Bool.not_eq_true',beq_iff_eq,h1];constructor
 ·rintro (h | h)
  ·cases hc:Op.bytesLess s' s with
   | false=>rfl
   | true=>rw [h2] at hc;omega
  ·subst h;cases hc:Op.bytesLess s s with
   | false=>rfl
   | true=>rw [h2] at hc;omega
 ·intro h;have h3:¬ (Op.bytesLess s' s=true):=by rw [h];simp
  rw [h2] at h3;by_cases hl:s.length=s'.length
  ·rw [hl] at h3 ⊢;simp only [Nat.sub_self,Nat.mul_zero,Nat.pow_zero,Nat.mul_one] at h3 ⊢;by_cases he:aU s=aU s'
   ·exact .inr (hv hl he)
   ·omega
  ·omega
end Go.Sim
namespace Go.Sim
open Go Go.RowKit
open Go.Abs (TE TK SK TOK TFacts)
structure Pl where
 b:Nat
 o:Nat
 n:Nat
abbrev Gh:=B→Pl
inductive RV (g:Gh) (n:Nat):V→Value→Prop
 | bool (b:Bool):RV g n (.bool b) (.bool b)
 | int (k:IntKind) (m:Int):RV g n (.int k m) (.int k m)
 | str (s:List UInt8):s.length≤maxL→RV g n (.str s.length (aU s)) (.string ⟨s.toArray⟩)
 | fC:RV g n .fC (.pointer none)
 | ptr (id:B) (off:Nat):id.num<n→RV g n (.ptr id off) (.pointer (some ⟨(g id).b,(g id).o+off,none⟩))
 | aj:RV g n .aj (.slice none 0 0)
 | gq (a:Option Addr):RV g n .gq (.slice a 0 0)
 | sl (id:B) (sz off len:Nat) (cap:Option Nat) (a:Option Addr) (c:Nat):id.num<n→len≤c→c≤maxL→(∀ k,cap=some k→c=k)→0<sz→off+c*sz≤(g id).n →
   (0<c→a=some ⟨(g id).b,(g id).o+off,none⟩)→RV g n (.sl id sz off len cap) (.slice a len c)
 | gU:RV g n .gU (.map none)
 | map (id:B):id.num<n→RV g n (.map id) (.map (some (g id).b))
 | gZ:RV g n .gZ .nilFunc
 | fn (f:Nat) (fs cs:List V) (vf vc:Array Value):vf.size=fs.length→(∀ (i:Nat) c v,fs[i]?=some c→vf[i]?=some v→RV g n c v)→vc.size=cs.length→(∀ (i:Nat) c v,cs[i]?=some c→vc[i]?=some v→RV g n c v) →
   RV g n (.fn f fs cs) (.func (.func f) vf vc)
 | iy:RV g n .iy .nilIface
 | ifc (t:Nat) (v:V) (x:Value):RV g n v x→RV g n (.ifc t v) (.iface t x)
 | agg (cs:List V) (vs:Array Value):vs.size=cs.length→(∀ (i:Nat) c v,cs[i]?=some c→vs[i]?=some v→RV g n c v)→(∀ (i:Nat) v,vs[i]?=some v→v.oneCell'=true)→RV g n (.agg cs) (.agg vs)
 | tup (cs:List V) (vs:Array Value):vs.size=cs.length→(∀ (i:Nat) c v,cs[i]?=some c→vs[i]?=some v→RV g n c v)→RV g n (.tup cs) (.tuple vs)
 | undef:RV g n .undef Go.undef
 | any (v:Value):RV g n .any v
def Ext (g g':Gh) (n:Nat):Prop:=∀ id:B,id.num<n→g' id=g id
theorem Ext.refl (g:Gh) (n:Nat):Ext g g n:=fun _ _=>rfl
theorem Ext.trans {g g' g'':Gh} {n n':Nat} (h:Ext g g' n) (h':Ext g' g'' n') (hn:n≤n'):Ext g g'' n:=
 fun id hi=>(h' id (Nat.lt_of_lt_of_le hi hn)).trans (h id hi)
theorem RV.mono {g g':Gh} {n n':Nat} (he:Ext g g' n) (hn:n≤n') {v:V} {x:Value} (h:RV g n v x):RV g' n' v x:=by
 induction h with
 | bool b=>exact .bool b
 | int k m=>exact .int k m
 | str s h=>exact .str s h
 | fC=>exact .fC
 | ptr id off h=>rw [← he id h];exact .ptr id off (Nat.lt_of_lt_of_le h hn)
 | aj=>exact .aj
 | gq a=>exact .gq a
 | sl id sz off len cap a c h h1 h2 h3 h4 h5 h6=>exact .sl id sz off len cap a c (Nat.lt_of_lt_of_le h hn) h1 h2 h3 h4 (by rw [he id h];exact h5) (by rw [he id h];exact h6)
 | gU=>exact .gU
 | map id h=>rw [← he id h];exact .map id (Nat.lt_of_lt_of_le h hn)
 | gZ=>exact .gZ
 | fn f fs cs vf vc h1 h2 h3 h4 i1 i2=>exact .fn f fs cs vf vc h1 i1 h3 i2
 | iy=>exact .iy
 | ifc t v x h ih=>exact .ifc t v x ih
 | agg cs vs h1 h2 h3 ih=>exact .agg cs vs h1 ih h3
 | tup cs vs h1 h2 ih=>exact .tup cs vs h1 ih
 | undef=>exact .undef
 | any v=>exact .any v
theorem RV.oneCell {g:Gh} {n:Nat} {v:V} {x:Value} (h:RV g n v x) (h1:one v=true):x.oneCell'=true:=by
 cases h<;>first | rfl | exact absurd h1 (by simp [one])
theorem RV.cells {g:Gh} {n:Nat} {v:V} {x:Value} (h:RV g n v x) (hv:List.all (cellsOf v) one=true) :
  x.cells.size=(cellsOf v).length∧∀ (i:Nat) c u,(cellsOf v)[i]?=some c→x.cells[i]?=some u→RV g n c u∧u.oneCell'=true:=by
 have single:∀ (v:V) (x:Value),RV g n v x→x.cells=#[x]→one v=true→x.cells.size=[v].length∧∀ (i:Nat) c u,[v][i]?=some c→x.cells[i]?=some u→RV g n c u∧u.oneCell'=true:=by
  intro v x h hx h1;rw [hx];refine ⟨rfl,fun i c u hc hu=>?_⟩;cases i<;>simp at hc hu;subst hc;subst hu;exact ⟨h,h.oneCell h1⟩
 cases h with
 | agg cs vs h1 h2 h3=>exact ⟨h1,fun i c u hc hu=>⟨h2 i c u hc hu,h3 i u hu⟩⟩
 | tup cs vs h1 h2=>exact absurd hv (by simp [cellsOf,one])
 | undef=>exact absurd hv (by simp [cellsOf,one])
 | any v=>exact absurd hv (by simp [cellsOf,one])
 | bool b=>exact single _ _ (.bool b) rfl rfl
 | int k m=>exact single _ _ (.int k m) rfl rfl
 | str s h=>exact single _ _ (.str s h) rfl rfl
 | fC=>exact single _ _ .fC rfl rfl
 | ptr id off h=>exact single _ _ (.ptr id off h) rfl rfl
 | aj=>exact single _ _ .aj rfl rfl
 | gq a=>exact single _ _ (.gq a) rfl rfl
 | sl id sz off len cap a c h h1 h2 h3 h4 h5 h6=>exact single _ _ (.sl id sz off len cap a c h h1 h2 h3 h4 h5 h6) rfl rfl
 | gU=>exact single _ _ .gU rfl rfl
 | map id h=>exact single _ _ (.map id h) rfl rfl
 | gZ=>exact single _ _ .gZ rfl rfl
 | fn f fs cs vf vc h1 h2 h3 h4=>exact single _ _ (.fn f fs cs vf vc h1 h2 h3 h4) rfl rfl
 | iy=>exact single _ _ .iy rfl rfl
 | ifc t v x h=>exact single _ _ (.ifc t v x h) rfl rfl
def RVL (g:Gh) (n:Nat) (cs:List V) (vs:List Value):Prop:=vs.length=cs.length∧∀ (i:Nat) c v,cs[i]?=some c→vs[i]?=some v→RV g n c v
theorem RVL.nil {g:Gh} {n:Nat}:RVL g n [] []:=⟨rfl,fun i c v h=>by simp at h⟩
theorem RVL.cons {g:Gh} {n:Nat} {c:V} {cs:List V} {v:Value} {vs:List Value} (h:RV g n c v) (hs:RVL g n cs vs):RVL g n (c::cs) (v::vs):=
 ⟨by simp [hs.1],fun i c' v' hc hv=>by
  cases i with
  | zero=>simp at hc hv;subst hc;subst hv;exact h
  | succ i=>simp at hc hv;exact hs.2 i c' v' hc hv⟩
theorem RVL.inv {g:Gh} {n:Nat} {c:V} {cs:List V} {vs:List Value} (h:RVL g n (c::cs) vs):∃ v vs',vs=v::vs'∧RV g n c v∧RVL g n cs vs':=by
 cases vs with
 | nil=>simp [RVL] at h
 | cons v vs=>exact ⟨v,vs,rfl,h.2 0 c v rfl rfl,by have:=h.1;simp at this;exact this,fun i c' v' hc hv=>h.2 (i+1) c' v' (by simpa using hc) (by simpa using hv)⟩
theorem RVL.jH {g:Gh} {n:Nat} {vs:List Value} (h:RVL g n [] vs):vs=[]:=by simpa using h.1
theorem RVL.append {g:Gh} {n:Nat} {cs ds:List V} {vs us:List Value} (h:RVL g n cs vs) (h':RVL g n ds us):RVL g n (cs++ds) (vs++us):=
 ⟨by simp [h.1,h'.1],fun i c v hc hv=>by
  by_cases hi:i<cs.length
  ·rw [List.getElem?_append_left hi] at hc;rw [List.getElem?_append_left (by rw [h.1];exact hi)] at hv;exact h.2 i c v hc hv
  ·rw [List.getElem?_append_right (by omega)] at hc;rw [List.getElem?_append_right (by rw [h.1];omega),h.1] at hv
   exact h'.2 _ c v hc hv⟩
section
variable (P:Program) (T:Nat→TE) (w0:World) (ng:Nat)
def Stamped (ents:Array MapEntry) (clock:Nat):Prop:=(∀ m∈ents.toList,m.born<clock)∧(ents.toList.map (·.born)).Nodup
def kJ (g:Gh) (n:Nat) (w:World) (id:B):Obj→Prop
 | .blk ro sz hi cs=>∃ cur Tb fz,w.heap[(g id).b]?=some (.cells cur Tb fz)∧(ro=false→fz=(0,0))∧(g id).o+(g id).n≤cur.size∧sz≤(g id).n ∧
   ∀ (j:Nat) v,(bOf j).get cs=some v→j<hi∧∃ u,cur[(g id).o+j]?=some u∧RV g n v u∧u.oneCell'=true
 | .map kt es=>∃ ents clock,w.heap[(g id).b]?=some (.map ents clock)∧ents.size=es.length ∧
   (∀ (i:Nat) (m:MapEntry) (e:V×V),ents[i]?=some m→es[i]?=some e→RV g n e.1 m.key∧RV g n e.2 m.val)∧(∀ e∈es,bW (T kt) e.1=true)∧Stamped ents clock
def Obj.ro:Obj→Bool
 | .blk ro _ _ _=>ro
 | .map _ _=>false
structure HR (g:Gh) (hp:B→Option Obj) (nx:B) (w:World):Prop where
 os:w.os=w0.os
 tape:w.tape=w0.tape
 output:w.output=w0.output
 size:w0.heap.size≤w.heap.size
 old:∀ b,b<w0.heap.size→w.heap[b]?=w0.heap[b]?
 obj:∀ id o,hp id=some o→id.num<nx.num∧kJ T g nx.num w id o
 sep:∀ id id' o o',hp id=some o→hp id'=some o'→id≠id'→o.ro=false→(g id).b≠(g id').b
 new:∀ id o,hp id=some o→o.ro=false→w0.heap.size≤(g id).b
 glob:∀ i,i<ng→(g (bOf i)).b=i∧(g (bOf i)).o=0
 ngx:ng≤nx.num
def Sub (t:Tr Obj) (hp:B→Option Obj):Prop:=∀ id o,id.get t=some o→hp id=some o
def Fr (t:Tr Obj) (nx:B) (hp hp':B→Option Obj):Prop:=∀ id:B,id.num<nx.num→id.get t=none→hp' id=hp id
def Dm (t:Tr Obj) (nx:B) (t':Tr Obj):Prop:=∀ id:B,id.num<nx.num→id.get t=none→id.get t'=none
structure Step (g:Gh) (hp:B→Option Obj) (t:Tr Obj) (nx:B) (w:World) (g':Gh) (hp':B→Option Obj) (t':Tr Obj) (nx':B) (w':World):Prop where
 ext:Ext g g' nx.num
 le:nx.num≤nx'.num
 hr:HR T w0 ng g' hp' nx' w'
 sub:Sub t' hp'
 fr:Fr t nx hp hp'
 dm:Dm t nx t'
 sz:w.heap.size≤w'.heap.size
 dr:ng=0→w.drawn≤w'.drawn
 un:∀ b,b<w.heap.size→(∀ id o,B.get id t=some o→o.ro=false→(g id).b≠b)→w'.heap[b]?=w.heap[b]?
 pl:∀ id o,B.get id t'=some o→o.ro=false→w.heap.size≤(g' id).b∨∃ id0 o0,B.get id0 t=some o0∧o0.ro=false∧(g id0).b=(g' id).b
 pl2:∀ id o,hp' id=some o→nx.num≤id.num→w.heap.size≤(g' id).b∨∃ id0 o0,B.get id0 t=some o0∧(g id0).b=(g' id).b
def pU (f:Nat) (args:List V) (t:Tr Obj) (nx:B) (v:V) (t':Tr Obj) (nx':B):Prop:=
 (∃ fn,P.funcs[f]?=some fn∧(fn.name == "runtime.NumGoroutine")=false∧fn.body.isNone=false) ∧
 ∀ g hp w vs,HR T w0 ng g hp nx w→Sub t hp→RVL g nx.num args vs →
   Calls P f vs.toArray w fun e w'=>∃ g' hp' val,e = .returned val∧Step T w0 ng g hp t nx w g' hp' t' nx' w'∧RV g' nx'.num v val
def anh (f:Nat) (args:List V) (t:Tr Obj) (nx:B) (v:V):Prop:=
 (∃ fn,P.funcs[f]?=some fn∧fn.body.isNone=true) ∧
 ∀ g hp w vs,HR T w0 ng g hp nx w→Sub t hp→RVL g nx.num args vs→∃ val,(callFunc f vs.toArray).run P w = .ok (.value val) w∧RV g nx.num v val
def Comes (f:Nat) (args:List V) (t:Tr Obj) (nx:B) (v:V) (t':Tr Obj) (nx':B):Prop:=pU P T w0 ng f args t nx v t' nx'∨(t'=t∧nx'=nx∧anh P T w0 ng f args t nx v)
def jd (call:Cl):Prop:=∀ f args t nx v t' nx',call f args t nx = .ret v t' nx'→Comes P T w0 ng f args t nx v t' nx'
def OpT (o:Oper) (vals:List V) (t:Tr Obj) (nx:B) (x:V) (t':Tr Obj) (nx':B):Prop:=
 ∀ g hp (a:Act) w,HR T w0 ng g hp nx w→Sub t hp→RVL g nx.num vals (o.op.operands.toList.map a.eval)→∀ (K:Act→World→Prop) (Q:Exit→Act→World→Prop),
   (∀ g' hp' v w',Step T w0 ng g hp t nx w g' hp' t' nx' w'→RV g' nx'.num x v→K (a.put o.dst v) w')→o.wp P a w K Q
def QT (o:Oper) (vals:List V) (t:Tr Obj) (nx:B) (x:V):Prop:=
 ∀ g hp (ρ:Operand→Value) w,HR T w0 ng g hp nx w→Sub t hp→RVL g nx.num vals (o.op.operands.toList.map ρ)→∃ v,(execOp ρ o).run P w = .ok (.value v) w∧RV g nx.num x v
def HQ (o:Oper) (h:H):Prop:=∀ call,jd P T w0 ng call→∀ vals t nx K r,(∀ n,R.bad n≠r)→h T call vals t nx K=r→∃ v,K v t nx=r∧QT P T w0 ng o vals t nx v
def HOK (o:Oper) (h:H):Prop:=∀ call,jd P T w0 ng call→∀ vals t nx K r,(∀ n,R.bad n≠r)→h T call vals t nx K=r→∃ v t' nx',K v t' nx'=r∧OpT P T w0 ng o vals t nx v t' nx'
end
section
variable {P:Program} {T:Nat→TE} {w0:World} {ng:Nat}
theorem Step.refl {g:Gh} {hp:B→Option Obj} {t:Tr Obj} {nx:B} {w:World} (h:HR T w0 ng g hp nx w) (hs:Sub t hp):Step T w0 ng g hp t nx w g hp t nx w:=
 ⟨.refl _ _,Nat.le_refl _,h,hs,fun _ _ _=>rfl,fun _ _ h=>h,Nat.le_refl _,fun _=>Nat.le_refl _,fun _ _ _=>rfl,fun id o h1 h2 => .inr ⟨id,o,h1,h2,rfl⟩,fun id o h1 h2=>absurd (h.obj id o h1).1 (Nat.not_lt.2 h2)⟩
theorem Step.trans {g g' g'':Gh} {hp hp' hp'':B→Option Obj} {t t' t'':Tr Obj} {nx nx' nx'':B} {w w' w'':World} (h:Step T w0 ng g hp t nx w g' hp' t' nx' w') (h':Step T w0 ng g' hp' t' nx' w' g'' hp'' t'' nx'' w'') :
  Step T w0 ng g hp t nx w g'' hp'' t'' nx'' w'':=
 ⟨h.ext.trans h'.ext h.le,Nat.le_trans h.le h'.le,h'.hr,h'.sub,fun id hi hn=>(h'.fr id (Nat.lt_of_lt_of_le hi h.le) (h.dm id hi hn)).trans (h.fr id hi hn),
  fun id hi hn=>h'.dm id (Nat.lt_of_lt_of_le hi h.le) (h.dm id hi hn),Nat.le_trans h.sz h'.sz,fun e=>Nat.le_trans (h.dr e) (h'.dr e),
  fun b hb hn=>(h'.un b (Nat.lt_of_lt_of_le hb h.sz) fun id o h1 h2 e=>by
   rcases h.pl id o h1 h2 with h3 | ⟨id0,o0,h3,h4,h5⟩
   ·omega
   ·exact hn id0 o0 h3 h4 (h5.trans e)).trans (h.un b hb hn),
  fun id o h1 h2=>by
   rcases h'.pl id o h1 h2 with h3 | ⟨id0,o0,h3,h4,h5⟩
   ·exact .inl (Nat.le_trans h.sz h3)
   ·rcases h.pl id0 o0 h3 h4 with h6 | ⟨id1,o1,h6,h7,h8⟩
    ·exact .inl (by rw [← h5];exact h6)
    ·exact .inr ⟨id1,o1,h6,h7,h8.trans h5⟩,
  fun id o h1 h2=>by
   rcases Nat.lt_or_ge id.num nx'.num with h3 | h3
   ·have e:(g' id).b=(g'' id).b:=(by rw [h'.ext id h3]);have hx:∃ o1,hp' id=some o1:=by
     cases h4:B.get id t' with
     | some o1=>exact ⟨o1,h.sub id o1 h4⟩
     | none=>exact ⟨o,by rw [← h'.fr id h3 h4];exact h1⟩
    obtain ⟨o1,h4⟩:=hx;rcases h.pl2 id o1 h4 h2 with h6 | ⟨id0,o0,h6,h7⟩
    ·exact .inl (by rw [← e];exact h6)
    ·exact .inr ⟨id0,o0,h6,h7.trans e⟩
   ·rcases h'.pl2 id o h1 h3 with h4 | ⟨id1,o1,h4,h5⟩
    ·exact .inl (Nat.le_trans h.sz h4)
    ·rcases Nat.lt_or_ge id1.num nx.num with h6 | h6
     ·cases h7:B.get id1 t with
      | some o2=>exact .inr ⟨id1,o2,h7,by rw [← h.ext id1 h6];exact h5⟩
      | none=>rw [h.dm id1 h6 h7] at h4;cases h4
     ·rcases h.pl2 id1 o1 (h.sub id1 o1 h4) h6 with h8 | ⟨id0,o0,h8,h9⟩
      ·exact .inl (by rw [← h5];exact h8)
      ·exact .inr ⟨id0,o0,h8,h9.trans h5⟩⟩
theorem OpT.of_run {o:Oper} {vals:List V} {t:Tr Obj} {nx:B} {x:V} {t':Tr Obj} {nx':B}
  (H:∀ g hp (ρ:Operand→Value) w,HR T w0 ng g hp nx w→Sub t hp→RVL g nx.num vals (o.op.operands.toList.map ρ) →
   ∃ v w' g' hp',((execOp ρ o).run P w = .ok (.value v) w'∨(execOp ρ o).run P w = .ok .skip w'∧v=undef)∧Step T w0 ng g hp t nx w g' hp' t' nx' w'∧RV g' nx'.num x v):OpT P T w0 ng o vals t nx x t' nx':=by
 intro g hp a w hr hs hv K Q hK;obtain ⟨v,w',g',hp',hrun,hst,hx⟩:=H g hp a.eval w hr hs hv;unfold Oper.wp;rcases hrun with h | ⟨h,rfl⟩
 ·rw [h];exact hK g' hp' v w' hst hx
 ·rw [h];exact hK g' hp' undef w' hst hx
theorem OpT.quiet {o:Oper} {vals:List V} {t:Tr Obj} {nx:B} {x:V}
  (H:∀ g hp (ρ:Operand→Value) w,HR T w0 ng g hp nx w→Sub t hp→RVL g nx.num vals (o.op.operands.toList.map ρ)→∃ v,(execOp ρ o).run P w = .ok (.value v) w∧RV g nx.num x v):OpT P T w0 ng o vals t nx x t nx:=
 .of_run fun g hp ρ w hr hs hv=>by
  obtain ⟨v,h1,h2⟩:=H g hp ρ w hr hs hv;exact ⟨v,w,g,hp,.inl h1,.refl hr hs,h2⟩
theorem HQ.ok {o:Oper} {h:H} (hq:HQ P T w0 ng o h):HOK P T w0 ng o h:=fun call hc vals t nx K r hr hh=>by
 obtain ⟨v,h1,h2⟩:=hq call hc vals t nx K r hr hh;exact ⟨v,t,nx,h1,.quiet h2⟩
theorem qF {g:Gh} {n:Nat} {a:V} {l:List Operand} {ρ:Operand→Value} {x:Operand} (hl:l=[x]) (h:RVL g n [a] (l.map ρ)):RV g n a (ρ x):=by
 subst hl;exact h.2 0 _ _ rfl rfl
theorem oK {g:Gh} {n:Nat} {a b:V} {l:List Operand} {ρ:Operand→Value} {x y:Operand} (hl:l=[x,y]) (h:RVL g n [a,b] (l.map ρ)):RV g n a (ρ x)∧RV g n b (ρ y):=by
 subst hl;exact ⟨h.2 0 _ _ rfl rfl,h.2 1 _ _ rfl rfl⟩
theorem ag1 {g:Gh} {n:Nat} {a b c:V} {l:List Operand} {ρ:Operand→Value} {x y z:Operand} (hl:l=[x,y,z]) (h:RVL g n [a,b,c] (l.map ρ)):RV g n a (ρ x)∧RV g n b (ρ y)∧RV g n c (ρ z):=by
 subst hl;exact ⟨h.2 0 _ _ rfl rfl,h.2 1 _ _ rfl rfl,h.2 2 _ _ rfl rfl⟩
theorem JA (g:Gh) (n:Nat) (v:Value):RV g n (cV1 v) v:=by
 cases v with
 | bool b=>exact .bool b
 | int k m=>exact .int k m
 | string s=>
   show RV g n (cStr s.data.toList) (.string s);unfold cStr;rw [aQ];split
   ·rename_i h;have:=RV.str (g:=g) (n:=n) s.data.toList (aY.1 h);rw [DZ,Nat.zero_mul,Nat.zero_add]
    simpa using this
   ·exact .any _
 | slice a len cap=>
   unfold cV1;split<;>first | exact .aj | exact .any _ | simp_all
   all_goals first | exact .aj | exact .any _
 | pointer a=>cases a with
   | none=>exact .fC
   | some a=>exact .any _
 | map r=>cases r with
   | none=>exact .gU
   | some r=>exact .any _
 | nilFunc=>exact .gZ
 | nilIface=>exact .iy
 | _=>exact .any _
theorem yw:∀ (vs:List Value) (i:Nat),(cVs vs)[i]?=vs[i]?.map cV1
 | [],i=>by simp [cVs]
 | v::vs,i=>by
   cases i with
   | zero=>simp [cVs]
   | succ i=>simp [cVs,yw vs i]
theorem OT:∀ (vs:List Value),(cVs vs).length=vs.length
 | []=>rfl
 | v::vs=>by simp [cVs,OT vs]
theorem qL (g:Gh) (n:Nat) (v:Value):RV g n (cV v) v:=by
 by_cases h:∃ cs,v = .agg cs
 ·obtain ⟨cs,rfl⟩:=h;show RV g n (aJ (List.all (cVs cs.toList) one) (.agg (cVs cs.toList)) .any) (.agg cs);rw [aQ];split
  ·rename_i hall;have hr:∀ (i:Nat) c u,(cVs cs.toList)[i]?=some c→cs[i]?=some u→RV g n c u:=fun i c u hc hu=>by
    rw [yw] at hc;have hu':cs.toList[i]?=some u:=(by simpa using hu);rw [hu'] at hc;simp at hc;subst hc;exact JA g n u
   refine .agg _ _ (by simp [OT]) hr fun i u hu=>?_
   have hu':cs.toList[i]?=some u:=(by simpa using hu);have hc:(cVs cs.toList)[i]?=some (cV1 u):=(by rw [yw,hu'];rfl);exact (hr i _ u hc hu).oneCell (List.all_eq_true.1 hall _ (List.mem_of_getElem? hc))
  ·exact .any _
 ·have:cV v=cV1 v:=by cases v<;>first | rfl | exact absurd ⟨_,rfl⟩ h
  rw [this];exact JA g n v
end
section
variable {P:Program} {T:Nat→TE} {w0:World} {ng:Nat}
theorem uq {o:Oper} {x:Operand} (ho:o.op = .move x∨o.op = .assign x):HQ P T w0 ng o NU:=by
 intro call _ vals t nx K r hr h;obtain ⟨v,rfl,hK⟩:=ku h (hr _);refine ⟨_,hK,fun g hp ρ w h1 h2 h3=>?_⟩;have hx:=qF (x:=x) (by rcases ho with ho | ho<;>simp [ho,Op.operands]) h3;exact ⟨ρ x,by rcases ho with ho | ho<;>simp [execOp,ho],hx⟩
theorem II {o:Oper} {c x y:Operand} (ho:o.op = .pick c x y):HQ P T w0 ng o aaj:=by
 intro call _ vals t nx K r hr h;obtain ⟨vc,vx,vy,rfl,k1⟩:=NG h (hr _);obtain ⟨b,rfl,hK⟩:=qy k1 (hr _);rw [aQ] at hK;have key:∀ g hp (ρ:Operand→Value) w,HR T w0 ng g hp nx w→Sub t hp→RVL g nx.num [.bool b,vx,vy] (o.op.operands.toList.map ρ)→ρ c = .bool b∧RV g nx.num vx (ρ x)∧RV g nx.num vy (ρ y):=by
  intro g hp ρ w _ _ h3;obtain ⟨e1,e2,e3⟩:=ag1 (x:=c) (y:=x) (z:=y) (by simp [ho,Op.operands]) h3;generalize ρ c=vc at e1 ⊢;cases e1;exact ⟨rfl,e2,e3⟩
 split at hK
 ·rename_i hb;subst hb;refine ⟨_,hK,fun g hp ρ w h1 h2 h3=>?_⟩;obtain ⟨e1,e2,_⟩:=key g hp ρ w h1 h2 h3;exact ⟨ρ x,by simp [execOp,ho,e1,Go.asBool],e2⟩
 ·rename_i hb;have hb:b=false:=by simpa using hb
  subst hb;refine ⟨_,hK,fun g hp ρ w h1 h2 h3=>?_⟩;obtain ⟨e1,_,e3⟩:=key g hp ρ w h1 h2 h3;exact ⟨ρ y,by simp [execOp,ho,e1,Go.asBool],e3⟩
theorem uo {o:Oper} {x:Operand} (ho:o.op = .nilCheck x):HQ P T w0 ng o Dt:=by
 intro call _ vals t nx K r hr h;obtain ⟨v,rfl,k1⟩:=ku h (hr _);have fin:∀ v',K v' t nx=r→v'=v→((∃ id off,v = .ptr id off)∨∃ f a b,v = .fn f a b)→∃ v',K v' t nx=r∧QT P T w0 ng o [v] t nx v':=by
  intro v' hK e hsh;subst e;refine ⟨_,hK,fun g hp ρ w h1 h2 h3=>?_⟩;have hx:=qF (x:=x) (by simp [ho,Op.operands]) h3;refine ⟨ρ x,?_,hx⟩;generalize hvx:ρ x=vx at hx;rcases hsh with ⟨id,off,rfl⟩ | ⟨f,a,b,rfl⟩<;>cases hx<;>simp [execOp,ho,hvx]
 rcases WE k1 with ⟨id,off,rfl,k2⟩ | ⟨_,k2⟩
 ·exact fin _ k2 rfl (.inl ⟨_,_,rfl⟩)
 ·obtain ⟨f,a,b,rfl,k3⟩:=yx k2 (hr _);exact fin _ k3 rfl (.inr ⟨_,_,_,rfl⟩)
theorem wP {o:Oper} {x:Operand} {i:Nat} (ho:o.op = .extract x i):HQ P T w0 ng o (IU i):=by
 intro call _ vals t nx K r hr h;obtain ⟨v,rfl,k1⟩:=ku h (hr _);obtain ⟨vs,rfl,k2⟩:=WC k1 (hr _);obtain ⟨c,hc,hK⟩:=eF k2 (hr _);refine ⟨_,hK,fun g hp ρ w h1 h2 h3=>?_⟩;have hx:=qF (x:=x) (by simp [ho,Op.operands]) h3;generalize hvx:ρ x=vx at hx;cases hx with
 | tup cs us g1 g2=>
   have hi:i<us.size:=(by rw [g1];exact (List.getElem?_eq_some_iff.1 hc).1);exact ⟨us[i],by simp [execOp,ho,hvx,Instr.extract,hi],g2 i _ _ hc (by simp [hi])⟩
theorem uw {o:Oper} {f:Nat} {first captured:Array Operand} (ho:o.op = .makeFunc (.func f) first captured):HQ P T w0 ng o (vV f first.toList.length):=by
 intro call _ vals t nx K r hr h;unfold vV at h;rw [jQ,jQ] at h;refine ⟨_,h,fun g hp ρ w h1 h2 h3=>?_⟩;simp only [ho,Op.operands,Array.toList_append,List.map_append] at h3;refine ⟨.func (.func f) (first.map ρ) (captured.map ρ),by simp [execOp,ho,Instr.makeFunc],.fn _ _ _ _ _ ?_ (fun i c v hc hv=>?_) ?_ (fun i c v hc hv=>?_)⟩
 ·have:=h3.1;simp at this ⊢;omega
 ·have hi:i<first.size:=by have:=(Array.getElem?_eq_some_iff.1 hv).1;simpa using this
  rw [List.getElem?_take_of_lt (by simpa using hi)] at hc;refine h3.2 i c v hc ?_;rw [List.getElem?_append_left (by simpa using hi)]
  simpa [hi] using hv
 ·have:=h3.1;simp at this ⊢;omega
 ·have hi:i<captured.size:=by have:=(Array.getElem?_eq_some_iff.1 hv).1;simpa using this
  rw [List.getElem?_drop] at hc;refine h3.2 _ c v hc ?_;rw [List.getElem?_append_right (by simp)]
  simpa [hi] using hv
theorem IG {k:IntKind} {n:Int} (h:inR k n=true):k.wrap n=n:=by
 cases k<;>simp only [inR,Bool.false_eq_true] at h
 ·have:-9223372036854775808≤n∧n≤9223372036854775807:=by
   cases n with
   | ofNat m=>have:=aN.1 h;simp only [Int.ofNat_eq_natCast];omega
   | negSucc m=>have:=aN.1 h;omega
  exact Abs.Gw this
 ·have:0≤n∧n<256:=by
   cases n with
   | ofNat m=>have:=aN.1 h;simp only [Int.ofNat_eq_natCast];omega
   | negSucc m=>exact absurd h (by simp)
  unfold IntKind.wrap;simp [IntKind.bits,IntKind.signed];omega
 ·have:0≤n∧n<18446744073709551616:=by
   cases n with
   | ofNat m=>have:=aN.1 h;simp only [Int.ofNat_eq_natCast];omega
   | negSucc m=>exact absurd h (by simp)
  unfold IntKind.wrap;simp [IntKind.bits,IntKind.signed];omega
theorem jS {R:Type} (k:IntKind) (n:Int) (K:Int→R):qK k n K=K (k.wrap n):=by
 unfold qK;rw [aQ,fM,fM];split
 ·rename_i h;rw [IG h]
 ·rfl
theorem nN (a b:Int):ltI a b=decide (a<b):=by
 unfold ltI;have e:Int.sub a b=a-b:=rfl;rw [e];cases h:a-b with
 | ofNat m=>simp only [Int.ofNat_eq_natCast] at h;exact (decide_eq_false (by omega)).symm
 | negSucc m=>exact (decide_eq_true (by omega)).symm
theorem KW (a b:Int):eqI a b=(a==b):=by
 rw [Bool.eq_iff_iff,beq_iff_eq];cases a<;>cases b<;>simp [eqI]<;>omega
theorem Ul {b:Int} (h:isZ b≠true):b≠0:=by
 rintro rfl;exact h rfl
theorem dK {k k':IntKind} {x r:R} (h:jl k k' x=r) (hr:∀ n,R.bad n≠r):k=k'∧x=r:=by
 obtain ⟨h1,h2⟩:=aG h (hr _);exact ⟨jI h1,h2⟩
theorem aep {op:BinOp} {k k':IntKind} {a b:Int} {K:V→R} {r:R} (hr:∀ n,R.bad n≠r) (h:opI op k a k' b K=r) :
  ∃ x,K x=r∧∀ (g:Gh) (n t:Nat) (w:World),∃ v,(binOp op t (.int k a) (.int k' b)).run P w = .ok v w∧RV g n x v:=by
 cases op with
 | shl=>
   obtain ⟨s,rfl,hs,h'⟩:=iY h (hr _);rw [fM] at h';refine ⟨_,h',fun g n t w=>⟨.int k (k.wrap (a*2 ^ (min s k.bits))),?_,?_⟩⟩
   ·have hb:¬ ((s:Int)<0):=(by omega);simp [binOp,Op.shift,hb]
   ·have e:Int.mul a (Int.ofNat (Nat.pow 2 (Nat.min s k.bits)))=a*2 ^ (min s k.bits):=by
     show a*((2 ^ (min s k.bits):Nat):Int)=_;simp
    rw [e];exact .int _ _
 | shr=>
   obtain ⟨s,rfl,hs,h'⟩:=iY h (hr _);rw [fM] at h';refine ⟨_,h',fun g n t w=>⟨.int k (a.fdiv (2 ^ (min s k.bits))),?_,?_⟩⟩
   ·have hb:¬ ((s:Int)<0):=(by omega);simp [binOp,Op.shift,hb]
   ·have e:Int.fdiv a (Int.ofNat (Nat.pow 2 (Nat.min s k.bits)))=a.fdiv (2 ^ (min s k.bits)):=by
     have e2:(Int.ofNat (Nat.pow 2 (Nat.min s k.bits)))=(2:Int) ^ (min s k.bits):=by
      show ((2 ^ (min s k.bits):Nat):Int)=_;simp
     rw [e2]
    rw [e];exact .int _ _
 | add=>
   obtain ⟨rfl,h'⟩:=dK h hr;rw [jS] at h';exact ⟨_,h',fun g n t w=>⟨.int k (k.wrap (a+b)),by simp [binOp,Op.intArith],.int _ _⟩⟩
 | sub=>
   obtain ⟨rfl,h'⟩:=dK h hr;rw [jS] at h';exact ⟨_,h',fun g n t w=>⟨.int k (k.wrap (a-b)),by simp [binOp,Op.intArith],.int _ _⟩⟩
 | mul=>
   obtain ⟨rfl,h'⟩:=dK h hr;rw [jS] at h';exact ⟨_,h',fun g n t w=>⟨.int k (k.wrap (a*b)),by simp [binOp,Op.intArith],.int _ _⟩⟩
 | quo=>
   obtain ⟨rfl,h'⟩:=dK h hr;rw [aQ] at h';split at h'
   ·exact absurd h' (hr _)
   ·rename_i hz;rw [jS] at h';exact ⟨_,h',fun g n t w=>⟨.int k (k.wrap (a.tdiv b)),by simp [binOp,Op.intDiv,Ul hz],.int _ _⟩⟩
 | rem=>
   obtain ⟨rfl,h'⟩:=dK h hr;rw [aQ] at h';split at h'
   ·exact absurd h' (hr _)
   ·rename_i hz;rw [fM] at h';exact ⟨_,h',fun g n t w=>⟨.int k (a.tmod b),by simp [binOp,Op.intDiv,Ul hz],.int _ _⟩⟩
 | and=>
   obtain ⟨rfl,h'⟩:=dK h hr;rw [fM] at h';exact ⟨_,h',fun g n t w=>⟨.int k (Abs.bitsOf .and k a b),by simp [binOp,Op.intBits,Abs.bitsOf],.int _ _⟩⟩
 | or=>
   obtain ⟨rfl,h'⟩:=dK h hr;rw [fM] at h';exact ⟨_,h',fun g n t w=>⟨.int k (Abs.bitsOf .or k a b),by simp [binOp,Op.intBits,Abs.bitsOf],.int _ _⟩⟩
 | xor=>
   obtain ⟨rfl,h'⟩:=dK h hr;rw [fM] at h';exact ⟨_,h',fun g n t w=>⟨.int k (Abs.bitsOf .xor k a b),by simp [binOp,Op.intBits,Abs.bitsOf],.int _ _⟩⟩
 | andNot=>
   obtain ⟨rfl,h'⟩:=dK h hr;rw [fM] at h';exact ⟨_,h',fun g n t w=>⟨.int k (Abs.bitsOf .andNot k a b),by simp [binOp,Op.intBits,Abs.bitsOf],.int _ _⟩⟩
 | eql=>
   obtain ⟨rfl,h'⟩:=dK h hr;rw [bF,KW] at h';exact ⟨_,h',fun g n t w=>⟨.bool (a==b),by simp [binOp,Op.intCmp],.bool _⟩⟩
 | neq=>
   obtain ⟨rfl,h'⟩:=dK h hr;rw [bF,KW] at h';exact ⟨_,h',fun g n t w=>⟨.bool (a != b),by simp [binOp,Op.intCmp],.bool _⟩⟩
 | lss=>
   obtain ⟨rfl,h'⟩:=dK h hr;rw [bF,nN] at h';exact ⟨_,h',fun g n t w=>⟨.bool (decide (a<b)),by simp [binOp,Op.intCmp],.bool _⟩⟩
 | leq=>
   obtain ⟨rfl,h'⟩:=dK h hr;rw [bF,nN] at h';refine ⟨_,h',fun g n t w=>⟨.bool (decide (a≤b)),by simp [binOp,Op.intCmp],?_⟩⟩;have e:decide (a≤b)=!decide (b<a):=(by rw [Bool.eq_iff_iff];simp);rw [e];exact .bool _
 | gtr=>
   obtain ⟨rfl,h'⟩:=dK h hr;rw [bF,nN] at h';exact ⟨_,h',fun g n t w=>⟨.bool (decide (a>b)),by simp [binOp,Op.intCmp],.bool _⟩⟩
 | geq=>
   obtain ⟨rfl,h'⟩:=dK h hr;rw [bF,nN] at h';refine ⟨_,h',fun g n t w=>⟨.bool (decide (a≥b)),by simp [binOp,Op.intCmp],?_⟩⟩;have e:decide (a≥b)=!decide (a<b):=(by rw [Bool.eq_iff_iff];simp);rw [e];exact .bool _
theorem aeo {op:BinOp} {s s':List UInt8} {K:V→R} {r:R} (hr:∀ n,R.bad n≠r) (h:opS op s.length (aU s) s'.length (aU s') K=r) :
  ∃ x,K x=r∧∀ (g:Gh) (n t:Nat) (w:World),∃ v,(binOp op t (.string ⟨s.toArray⟩) (.string ⟨s'.toArray⟩)).run P w = .ok v w∧RV g n x v:=by
 have ea:(⟨s.toArray⟩:ByteArray).toList=s:=by rw [ByteArray.toList_eq]
 have eb:(⟨s'.toArray⟩:ByteArray).toList=s':=by rw [ByteArray.toList_eq]
 cases op with
 | add=>
   unfold opS at h;simp only [aI] at h;obtain ⟨h1,h'⟩:=aG h (hr _);have h1':s.length+s'.length≤9223372036854775807:=aY.1 h1;refine ⟨_,h',fun g n t w=>⟨.string ⟨(s++s').toArray⟩,?_,?_⟩⟩
   ·have e:(⟨s.toArray⟩:ByteArray)++⟨s'.toArray⟩=⟨(s++s').toArray⟩:=by
     apply ByteArray.ext;simp
    have hn:¬ ((9223372036854775807:Int)<((⟨s.toArray⟩:ByteArray).size+(⟨s'.toArray⟩:ByteArray).size:Int)):=by
     simp [ByteArray.size];omega
    have hm:IntKind.i64.max=9223372036854775807:=(by decide);simp [binOp,Op.stringOp,e,hm,hn]
   ·have e1:Nat.add s.length s'.length=(s++s').length:=(by simp);have e2:Nat.add (Nat.shiftLeft (aU s) (Nat.mul 8 s'.length)) (aU s')=aU (s++s'):=by
     rw [dQ];show Nat.shiftLeft (aU s) (8*s'.length)+aU s'=_;rw [show Nat.shiftLeft (aU s) (8*s'.length)=aU s*2 ^ (8*s'.length) from Nat.shiftLeft_eq _ _]
    rw [e1,e2];exact .str _ (by simpa using h1')
 | eql=>
   simp only [opS,bF,sD] at h;exact ⟨_,h,fun g n t w=>⟨.bool (s==s'),by simp [binOp,Op.stringOp,ea,eb],.bool _⟩⟩
 | neq=>
   simp only [opS,bF,sD] at h;exact ⟨_,h,fun g n t w=>⟨.bool (!(s==s')),by simp [binOp,Op.stringOp,ea,eb],.bool _⟩⟩
 | lss=>
   simp only [opS,bF,lZ] at h;exact ⟨_,h,fun g n t w=>⟨.bool (Op.bytesLess s s'),by simp [binOp,Op.stringOp,ea,eb],.bool _⟩⟩
 | leq=>
   simp only [opS,bF,lZ] at h;rw [← oq] at h;exact ⟨_,h,fun g n t w=>⟨.bool (Op.bytesLess s s'||s==s'),by simp [binOp,Op.stringOp,ea,eb],.bool _⟩⟩
 | gtr=>
   simp only [opS,bF,lZ] at h;refine ⟨_,h,fun g n t w=>⟨.bool (!(Op.bytesLess s s'||s==s')),by simp [binOp,Op.stringOp,ea,eb],?_⟩⟩;rw [oq,Bool.not_not];exact .bool _
 | geq=>
   simp only [opS,bF,lZ] at h;exact ⟨_,h,fun g n t w=>⟨.bool (!Op.bytesLess s s'),by simp [binOp,Op.stringOp,ea,eb],.bool _⟩⟩
 | _=>exact absurd h (hr _)
theorem J9 {op:BinOp} {b:Bool} {K:V→R} {r:R} (hr:∀ n,R.bad n≠r) (h:opE op b K=r) :
  (op = .eql∧K (.bool b)=r)∨(op = .neq∧K (.bool (!b))=r):=by
 cases op<;>simp only [opE,bF] at h<;>first | exact .inl ⟨rfl,h⟩ | exact .inr ⟨rfl,h⟩ | exact absurd h (hr _)
end
end Go.Sim
namespace Go.Sim
open Go Go.RowKit
open Go.Abs (TE TK SK TOK TFacts D RdD)
inductive PD:V→D→Prop
 | bool (b:Bool):PD (.bool b) (.bool b)
 | int (k:IntKind) (n:Int):PD (.int k n) (.int k n)
 | str (s:List UInt8):PD (.str s.length (aU s)) (.str s)
theorem ag7 {g:Gh} {n:Nat} {c:V} {u:Value} {k:SK} (h:RV g n c u) (hf:gW k c=true):∃ d,PD c d∧Abs.gW k d=true∧D.one d=true∧u.oneCell'=true∧∀ (ok:Nat→Prop) (w:World),RdD ok w u d:=by
 cases h<;>cases k<;>try (exfalso;simp [gW] at hf;done)
 ·exact ⟨_,.bool _,rfl,rfl,rfl,fun _ _ => .bool _⟩
 ·rename_i k1 m k2;have e:=jI hf;subst e;refine ⟨_,.int _ _,?_,rfl,rfl,fun _ _ => .int _ _⟩;cases k2<;>rfl
 ·rename_i s hs;exact ⟨_,.str s,rfl,rfl,rfl,fun _ _ => .str s hs⟩
theorem aej {a b:V} {x y:D} (ha:PD a x) (hb:PD b y):eq1 a b=Abs.eq1 x y:=by
 cases ha<;>cases hb<;>try rfl
 ·rename_i a b;cases a<;>cases b<;>rfl
 ·exact KW _ _
 ·exact sD _ _
inductive PDs:List V→List D→Prop
 | nil:PDs [] []
 | cons {c:V} {d:D} {cs:List V} {ds:List D}:PD c d→PDs cs ds→PDs (c::cs) (d::ds)
theorem PDs.length_eq {cs:List V} {ds:List D} (h:PDs cs ds):cs.length=ds.length:=by
 induction h with
 | nil=>rfl
 | cons _ _ ih=>simp [ih]
theorem y9 {g:Gh} {n:Nat}:∀ {ks:List SK} {cs:List V} {us:List Value},fits ks cs=true→RVL g n cs us →
  ∃ ds:List D,PDs cs ds∧Abs.fG ks ds=true∧ds.length=us.length∧∀ (i:Nat) u d,us[i]?=some u→ds[i]?=some d→D.one d=true∧u.oneCell'=true∧∀ (ok:Nat→Prop) (w:World),RdD ok w u d
 | [],[],us,_,hl=>by
   have:=hl.jH;subst this;exact ⟨[],.nil,rfl,rfl,fun i u d h=>by simp at h⟩
 | [],_::_,_,h,_=>absurd h (by simp [fits])
 | _::_,[],_,h,_=>absurd h (by simp [fits])
 | k::ks,c::cs,us,h,hl=>by
   obtain ⟨u,us',rfl,hu,hl'⟩:=hl.inv;obtain ⟨h1,h2⟩:=aB h;obtain ⟨d,g1,g2,g3,g4,g5⟩:=ag7 hu h1;obtain ⟨ds,e1,e2,e3,e4⟩:=y9 h2 hl';refine ⟨d::ds,.cons g1 e1,by simp [Abs.fG,g2,e2],by simp [e3],fun i u' d' hu' hd'=>?_⟩;cases i with
   | zero=>simp at hu' hd';subst hu';subst hd';exact ⟨g3,g4,g5⟩
   | succ i=>simp at hu' hd';exact e4 i u' d' hu' hd'
theorem Ey:∀ {as bs:List V} {xs ys:List D},PDs as xs→PDs bs ys→as.length=bs.length→YB as bs=Abs.aW xs ys
 | [],[],_,_,.nil,.nil,_=>rfl
 | a::as,b::bs,_,_,.cons h1 t1,.cons h2 t2,hl=>by
   have hl':as.length=bs.length:=(by simpa using hl);rw [Abs.jK _ _ _ _ (by rw [← t1.length_eq,← t2.length_eq];exact hl'),← aej h1 h2,← Ey t1 t2 hl'];show and (eq1 a b) (YB as bs)=_;cases eq1 a b<;>rfl
theorem zZ:∀ {ks:List SK} {cs:List V},fits ks cs=true→cs.length=ks.length
 | [],[],_=>rfl
 | [],_::_,h=>absurd h (by simp [fits])
 | _::_,[],h=>absurd h (by simp [fits])
 | k::ks,c::cs,h=>by simp [zZ (aB h).2]
section
variable {P:Program} {T:Nat→TE} {w0:World} {ng:Nat}
theorem yD (hT:TOK P T) {t:Nat} {k:TK} (hk:(T t).k=k) (hn:k ≠ .none):∃ d i,TFacts P t (T t) d i∧k=Abs.kOf P d:=by
 obtain ⟨d,i,hf⟩:=hT.facts (t:=t) (by rw [hk];exact hn);exact ⟨d,i,hf,by rw [← hk];exact hf.k⟩
theorem rX (hT:TOK P T) {t e:Nat} (hk:(T t).k = .slc e):P.underlying t=some (.slice e):=hT.slc hk
theorem pV (hT:TOK P T) {t:Nat} (hk:(T t).k = .str):P.underlying t=some .string:=by
 obtain ⟨d,i,hf,hd⟩:=yD hT hk (by simp);rw [← Abs.nP.2.1 hd.symm];exact hf.und
theorem Ec (hT:TOK P T) {t k e:Nat} (hk:(T t).k = .map k e):P.underlying t=some (.map k e):=by
 obtain ⟨d,i,hf,hd⟩:=yD hT hk (by simp);rw [← Abs.nP.2.2.2.2.2 _ _ hd.symm];exact hf.und
theorem xP (hT:TOK P T) {t n e:Nat} (hk:(T t).k = .arr n e):P.underlying t=some (.array n e):=by
 obtain ⟨d,i,hf,hd⟩:=yD hT hk (by simp);cases d
 case array n' e'=>
  simp only [Abs.kOf] at hd;split at hd
  ·cases hd;exact hf.und
  ·cases hd
 case struct fs=>simp only [Abs.kOf] at hd;split at hd<;>cases hd
 all_goals exact absurd hd (by simp [Abs.kOf])
theorem Q9 (hT:TOK P T) {t:Nat} (hk:(T t).k = .fn):∃ a b c,P.underlying t=some (.func a b c):=by
 obtain ⟨d,i,hf,hd⟩:=yD hT hk (by simp);cases d
 case array n' e'=>simp only [Abs.kOf] at hd;split at hd<;>cases hd
 case struct fs=>simp only [Abs.kOf] at hd;split at hd<;>cases hd
 case func a b c=>exact ⟨_,_,_,hf.und⟩
 all_goals exact absurd hd (by simp [Abs.kOf])
theorem Uh {k:TK} (h:Ui k=true):k = .bool:=by cases k<;>first | rfl | exact absurd h (by simp [Ui])
theorem NM {k:TK} (h:XR k=true):k = .ptr:=by cases k<;>first | rfl | exact absurd h (by simp [XR])
theorem NK {k:TK} (h:XQ k=true):∃ e,k = .slc e:=by cases k<;>first | exact ⟨_,rfl⟩ | exact absurd h (by simp [XQ])
theorem NP {k:TK} (h:XT k=true):∃ a b,k = .map a b:=by cases k<;>first | exact ⟨_,_,rfl⟩ | exact absurd h (by simp [XT])
theorem Ug {k:TK} (h:kFn k=true):k = .fn:=by cases k<;>first | rfl | exact absurd h (by simp [kFn])
theorem XH {b:V} {p q:V→Bool} {E:Bool→(V→R)→R} {K:V→R} {r:R} (hr:∀ n,R.bad n≠r) (h:zx b p q E K=r):(p b=true∧E true K=r)∨(q b=true∧E false K=r):=by
 unfold zx at h;rw [aQ,aQ] at h;split at h
 ·exact .inl ⟨‹_›,h⟩
 ·split at h
  ·exact .inr ⟨‹_›,h⟩
  ·exact absurd h (hr _)
def adb (op:BinOp) (b:Bool):V:=match op with | .eql => .bool b | _ => .bool (!b)
theorem xw (n0:Nat) {t e:Nat} (hu:P.underlying t=some (.slice e)) (w:World) (a b:Option Addr) (n c m d:Nat) (h0:a=none∨b=none):(Op.equalIn (n0+1) t (.slice a n c) (.slice b m d)).run P w = .ok (a.isNone&&b.isNone) w:=by
 cases a with
 | none=>simp [Op.equalIn,run_underlying hu]
 | some a=>cases b with
   | none=>simp [Op.equalIn,run_underlying hu]
   | some b=>simp at h0
theorem lH {t e:Nat} (hu:P.underlying t=some (.slice e)) (w:World) (a b:Option Addr) (n c m d:Nat) (h0:a=none∨b=none):(Op.equal t (.slice a n c) (.slice b m d)).run P w = .ok (a.isNone&&b.isNone) w:=xw 9999 hu w a b n c m d h0
theorem xB (n0:Nat) {t e k:Nat} (hu:P.underlying t=some (.map k e)) (w:World) (a b:Option Nat) (h0:a=none∨b=none):(Op.equalIn (n0+1) t (.map a) (.map b)).run P w = .ok (a.isNone&&b.isNone) w:=by
 cases a with
 | none=>simp [Op.equalIn,run_underlying hu]
 | some a=>cases b with
   | none=>simp [Op.equalIn,run_underlying hu]
   | some b=>simp at h0
theorem lJ {t e k:Nat} (hu:P.underlying t=some (.map k e)) (w:World) (a b:Option Nat) (h0:a=none∨b=none):(Op.equal t (.map a) (.map b)).run P w = .ok (a.isNone&&b.isNone) w:=xB 9999 hu w a b h0
theorem yL (n0:Nat) {t:Nat} {a b:Array TypeId} {c:Bool} (hu:P.underlying t=some (.func a b c)) (w:World):(Op.equalIn (n0+1) t .nilFunc .nilFunc).run P w = .ok true w:=by
 simp [Op.equalIn,run_underlying hu]
theorem En {t:Nat} {a b:Array TypeId} {c:Bool} (hu:P.underlying t=some (.func a b c)) (w:World):(Op.equal t .nilFunc .nilFunc).run P w = .ok true w:=yL 9999 hu w
theorem yM (n0:Nat) {t:Nat} {a b:Array TypeId} {c:Bool} (hu:P.underlying t=some (.func a b c)) (w:World) (f:Fn) (x y:Array Value):(Op.equalIn (n0+1) t .nilFunc (.func f x y)).run P w = .ok false w:=by
 simp [Op.equalIn,run_underlying hu]
theorem Eo {t:Nat} {a b:Array TypeId} {c:Bool} (hu:P.underlying t=some (.func a b c)) (w:World) (f:Fn) (x y:Array Value):(Op.equal t .nilFunc (.func f x y)).run P w = .ok false w:=yM 9999 hu w f x y
theorem yN (n0:Nat) {t:Nat} {a b:Array TypeId} {c:Bool} (hu:P.underlying t=some (.func a b c)) (w:World) (f:Fn) (x y:Array Value):(Op.equalIn (n0+1) t (.func f x y) .nilFunc).run P w = .ok false w:=by
 simp [Op.equalIn,run_underlying hu]
theorem Es {t:Nat} {a b:Array TypeId} {c:Bool} (hu:P.underlying t=some (.func a b c)) (w:World) (f:Fn) (x y:Array Value):(Op.equal t (.func f x y) .nilFunc).run P w = .ok false w:=yN 9999 hu w f x y
theorem agy {op:BinOp} {t:Nat} {va vb:Value} {b:Bool} {K:V→R} {r:R} (hr:∀ n,R.bad n≠r) (h:opE op b K=r) (w:World) (ox oy:Operand) (hg:∀ op,(eqGuard op t ox oy va vb).run P w = .ok () w)
  (he:(Op.equal t va vb).run P w = .ok b w) (h1:binOp .eql t va vb=do pure (.bool (← Op.equal t va vb))) (h2:binOp .neq t va vb=do pure (.bool (!(← Op.equal t va vb)))) :
  ∃ v,(do eqGuard op t ox oy va vb;binOp op t va vb).run P w = .ok v w∧∀ (g:Gh) (n:Nat),RV g n (adb op b) v:=by
 rcases J9 hr h with ⟨rfl,_⟩ | ⟨rfl,_⟩
 ·exact ⟨.bool b,by simp [hg,h1,he],fun g n => .bool _⟩
 ·exact ⟨.bool (!b),by simp [hg,h2,he],fun g n => .bool _⟩
theorem Ob (hT:TOK P T) {o:Oper} {op:BinOp} {t ty:Nat} {x y:Operand} (ho:o.op = .binOp op t x y ty):HQ P T w0 ng o (ahx op t):=by
 intro call _ vals hh nx K r hr h;obtain ⟨a,b,rfl,k1⟩:=lq h (hr _)
 suffices H:∃ v,K v hh nx=r∧∀ (g:Gh) (w:World) (va vb:Value),RV g nx.num a va→RV g nx.num b vb→∃ v',(do eqGuard op t x y va vb;binOp op t va vb).run P w = .ok v' w∧RV g nx.num v v' by
  obtain ⟨v,hK,hv⟩:=H;refine ⟨v,hK,fun g hp ρ w h1 h2 h3=>?_⟩;obtain ⟨e1,e2⟩:=oK (x:=x) (y:=y) (by simp [ho,Op.operands]) h3;obtain ⟨v',g1,g2⟩:=hv g w _ _ e1 e2;exact ⟨v',by simp only [execOp,ho];rw [Sem.run_bind,g1];rfl,g2⟩
 have eqv:∀ (bb:Bool),opE op bb (fun v=>K v hh nx)=r→(∀ (g:Gh) (w:World) (va vb:Value),RV g nx.num a va→RV g nx.num b vb→(∀ op,(eqGuard op t x y va vb).run P w = .ok () w)∧(Op.equal t va vb).run P w = .ok bb w ∧
   binOp .eql t va vb=(do pure (.bool (← Op.equal t va vb)))∧binOp .neq t va vb=(do pure (.bool (!(← Op.equal t va vb))))) →
   ∃ v,K v hh nx=r∧∀ (g:Gh) (w:World) (va vb:Value),RV g nx.num a va→RV g nx.num b vb→∃ v',(do eqGuard op t x y va vb;binOp op t va vb).run P w = .ok v' w∧RV g nx.num v v':=by
  intro bb hE hrun;refine ⟨adb op bb,?_,fun g w va vb ha hb=>?_⟩
  ·rcases J9 hr hE with ⟨rfl,e⟩ | ⟨rfl,e⟩<;>exact e
  ·obtain ⟨q1,q2,q3,q4⟩:=hrun g w va vb ha hb;obtain ⟨v',g1,g2⟩:=agy hr hE w x y q1 q2 q3 q4;exact ⟨v',g1,g2 g nx.num⟩
 have nilc:∀ (p q:V→Bool),zx b p q (opE op) (fun v=>K v hh nx)=r →
   (∀ (bb:Bool),(if bb then p b else q b)=true→∀ (g:Gh) (w:World) (va vb:Value),RV g nx.num a va→RV g nx.num b vb→(∀ op,(eqGuard op t x y va vb).run P w = .ok () w)∧(Op.equal t va vb).run P w = .ok bb w ∧
    binOp .eql t va vb=(do pure (.bool (← Op.equal t va vb)))∧binOp .neq t va vb=(do pure (.bool (!(← Op.equal t va vb))))) →
   ∃ v,K v hh nx=r∧∀ (g:Gh) (w:World) (va vb:Value),RV g nx.num a va→RV g nx.num b vb→∃ v',(do eqGuard op t x y va vb;binOp op t va vb).run P w = .ok v' w∧RV g nx.num v v':=by
  intro p q hn hrun;rcases XH hr hn with ⟨e1,e2⟩ | ⟨e1,e2⟩
  ·exact eqv true e2 (hrun true e1)
  ·exact eqv false e2 (hrun false e1)
 cases a with
 | int k n=>
   obtain ⟨k',m,rfl,k2⟩:=dH k1 (hr _);obtain ⟨v,hK,hv⟩:=aep (P:=P) hr k2;refine ⟨v,hK,fun g w va vb ha hb=>?_⟩;cases ha;cases hb;obtain ⟨v',g1,g2⟩:=hv g nx.num t w;exact ⟨v',by simp [Abs.xE,g1],g2⟩
 | str l n=>
   obtain ⟨l',n',rfl,k2⟩:=fJ k1 (hr _);by_cases hs:∃ s s':List UInt8,l=s.length∧n=aU s∧l'=s'.length∧n'=aU s'
   ·obtain ⟨s,s',rfl,rfl,rfl,rfl⟩:=hs;obtain ⟨v,hK,hv⟩:=aeo (P:=P) hr k2;refine ⟨v,hK,fun g w va vb ha hb=>?_⟩;have ea:va = .string ⟨s.toArray⟩:=by
     generalize hl:s.length=l at ha;generalize hn:aU s=n at ha;cases ha with
     | str s2 _=>rw [lY hl.symm hn.symm]
    have eb:vb = .string ⟨s'.toArray⟩:=by
     generalize hl:s'.length=l at hb;generalize hn:aU s'=n at hb;cases hb with
     | str s2 _=>rw [lY hl.symm hn.symm]
    subst ea;subst eb;obtain ⟨v',g1,g2⟩:=hv g nx.num t w;exact ⟨v',by simp [Abs.xC,g1],g2⟩
   ·
    have:∃ v,K v hh nx=r:=by
     cases op<;>simp only [opS,bF,aI] at k2<;>first | exact ⟨_,k2⟩ | exact ⟨_,(aG k2 (hr _)).2⟩ | exact absurd k2 (hr _)
    obtain ⟨v,hK⟩:=this;refine ⟨v,hK,fun g w va vb ha hb=>?_⟩;cases ha;cases hb;exact absurd ⟨_,_,rfl,rfl,rfl,rfl⟩ hs
 | bool c=>
   obtain ⟨k0,k2⟩:=aG k1 (hr _);obtain ⟨d,rfl,k3⟩:=qy k2 (hr _);have hk:=Uh k0;have e:qI c d=(c==d):=(by cases c<;>cases d<;>rfl);rw [e] at k3;refine eqv _ k3 fun g w va vb ha hb=>?_
   cases ha;cases hb;exact ⟨fun op=>Abs.vw op t x y c d,Abs.run_equal_bool hT hk c d,rfl,rfl⟩
 | agg cs=>
   obtain ⟨ds,rfl,k2⟩:=ni k1 (hr _);obtain ⟨k3,k4⟩:=aG k2 (hr _);obtain ⟨k5,k6⟩:=aB k3;obtain ⟨k7,k8⟩:=aB k5;obtain ⟨k9,k10⟩:=aB k6;rw [bF] at k4;rcases J9 hr k4 with ⟨rfl,e⟩ | ⟨rfl,e⟩
   all_goals
    refine ⟨_,e,fun g w va vb ha hb=>?_⟩;cases ha with
    | agg _ us a1 a2 a3=>cases hb with
      | agg _ zs b1 b2 b3=>
        obtain ⟨xs,p1,p2,p3,p4⟩:=y9 (us:=us.toList) k9 ⟨by simpa using a1,fun i c v hc hv=>a2 i c v hc (by simpa using hv)⟩;obtain ⟨ys,q1,q2,q3,q4⟩:=y9 (us:=zs.toList) k10 ⟨by simpa using b1,fun i c v hc hv=>b2 i c v hc (by simpa using hv)⟩;have hx:RdD (fun _=>False) w (.agg us) (.agg xs) := .agg _ _ (by rw [p3];simp) (fun i v c hv hc=>(p4 i v c (by simpa using hv) hc).2.2 _ _) (fun i v c hv hc=>⟨(p4 i v c (by simpa using hv) hc).2.1,(p4 i v c (by simpa using hv) hc).1⟩);have hy:RdD (fun _=>False) w (.agg zs) (.agg ys) := .agg _ _ (by rw [q3];simp) (fun i v c hv hc=>(q4 i v c (by simpa using hv) hc).2.2 _ _) (fun i v c hv hc=>⟨(q4 i v c (by simpa using hv) hc).2.1,(q4 i v c (by simpa using hv) hc).1⟩);have hl:cs.length=ds.length:=(zZ k9).trans (zZ k10).symm
        first
        | (obtain ⟨d,hd,hrun⟩:=Abs.yO (P:=P) hT (op := .eql) (t:=t) k7 (x := .agg xs) (y := .agg ys) (K:=fun d=>d = .bool (Abs.aW xs ys)) (by simp [Abs.KZ,Abs.asAgg,Abs.Bh,k8,p2,q2,Abs.Py]) x y
           subst hd;obtain ⟨v,g1,g2⟩:=hrun _ w _ _ hx hy;refine ⟨v,g1,?_⟩;cases g2
           rw [Ey p1 q1 hl];exact .bool _)
        | (obtain ⟨d,hd,hrun⟩:=Abs.yO (P:=P) hT (op := .neq) (t:=t) k7 (x := .agg xs) (y := .agg ys) (K:=fun d=>d = .bool (!Abs.aW xs ys)) (by simp [Abs.KZ,Abs.asAgg,Abs.Bh,k8,p2,q2,Abs.Py]) x y
           subst hd;obtain ⟨v,g1,g2⟩:=hrun _ w _ _ hx hy;refine ⟨v,g1,?_⟩;cases g2
           rw [Ey p1 q1 hl];exact .bool _)
 | fC=>
   obtain ⟨k0,k2⟩:=aG k1 (hr _);have hk:=NM k0;refine nilc _ _ k2 fun bb hb0 g w va vb ha hb=>?_
   cases ha;cases bb<;>cases b<;>try (exfalso;simp [L9,ag8] at hb0;done)
   ·cases hb;exact ⟨fun op=>Abs.jw op t x y _ _,Abs.lI hT hk _ _ (.inl rfl),rfl,rfl⟩
   ·cases hb;exact ⟨fun op=>Abs.jw op t x y _ _,Abs.lI hT hk _ _ (.inl rfl),rfl,rfl⟩
 | ptr id off=>
   obtain ⟨k0,k2⟩:=aG k1 (hr _);have hk:=NM k0;refine nilc _ _ k2 fun bb hb0 g w va vb ha hb=>?_
   cases ha;cases bb<;>cases b<;>try (exfalso;simp [L9,pNo] at hb0;done)
   cases hb;exact ⟨fun op=>Abs.jw op t x y _ _,Abs.lI hT hk _ _ (.inr rfl),rfl,rfl⟩
 | aj=>
   obtain ⟨k0,k2⟩:=aG k1 (hr _);obtain ⟨e,hk⟩:=NK k0;have hu:=rX hT hk;refine nilc _ _ k2 fun bb hb0 g w va vb ha hb=>?_
   cases ha;cases bb<;>cases b<;>try (exfalso;simp [L8,pSl] at hb0;done)
   ·rename_i id sz off len cap;have hlen:0<len:=aN.1 hb0;cases hb with
    | sl _ _ _ _ _ a c i1 i2 i3 i4 i5 i6 i7=>
      have:=i7 (by omega);subst this;exact ⟨fun op=>by cases op<;>rfl,lH hu w _ _ _ _ _ _ (.inl rfl),rfl,rfl⟩
   ·cases hb;exact ⟨fun op=>by cases op<;>rfl,lH hu w _ _ _ _ _ _ (.inl rfl),rfl,rfl⟩
 | sl id sz off len cap=>
   obtain ⟨k0,k2⟩:=aG k1 (hr _);obtain ⟨k00,k01⟩:=aB k0;obtain ⟨e,hk⟩:=NK k00;have hlen:0<len:=aN.1 k01;have hu:=rX hT hk;refine nilc _ _ k2 fun bb hb0 g w va vb ha hb=>?_
   cases ha with
   | sl _ _ _ _ _ a c i1 i2 i3 i4 i5 i6 i7=>
     have:=i7 (by omega);subst this;cases bb<;>cases b<;>try (exfalso;simp [L8,pNo] at hb0;done)
     cases hb;exact ⟨fun op=>by cases op<;>rfl,lH hu w _ _ _ _ _ _ (.inr rfl),rfl,rfl⟩
 | gU=>
   obtain ⟨k0,k2⟩:=aG k1 (hr _);obtain ⟨e,e',hk⟩:=NP k0;have hu:=Ec hT hk;refine nilc _ _ k2 fun bb hb0 g w va vb ha hb=>?_
   cases ha;cases bb<;>cases b<;>try (exfalso;simp [Mc,ag9] at hb0;done)
   ·cases hb;exact ⟨fun op=>by cases op<;>rfl,lJ hu w _ _ (.inl rfl),rfl,rfl⟩
   ·cases hb;exact ⟨fun op=>by cases op<;>rfl,lJ hu w _ _ (.inl rfl),rfl,rfl⟩
 | map id=>
   obtain ⟨k0,k2⟩:=aG k1 (hr _);obtain ⟨e,e',hk⟩:=NP k0;have hu:=Ec hT hk;refine nilc _ _ k2 fun bb hb0 g w va vb ha hb=>?_
   cases ha;cases bb<;>cases b<;>try (exfalso;simp [Mc,pNo] at hb0;done)
   cases hb;exact ⟨fun op=>by cases op<;>rfl,lJ hu w _ _ (.inr rfl),rfl,rfl⟩
 | gZ=>
   obtain ⟨k0,k2⟩:=aG k1 (hr _);obtain ⟨e,e',e'',hu⟩:=Q9 hT (Ug k0);refine nilc _ _ k2 fun bb hb0 g w va vb ha hb=>?_
   cases ha;cases bb<;>cases b<;>try (exfalso;simp [Md,pFn] at hb0;done)
   ·cases hb;exact ⟨fun op=>by cases op<;>rfl,Eo hu w _ _ _,rfl,rfl⟩
   ·cases hb;exact ⟨fun op=>by cases op<;>rfl,En hu w,rfl,rfl⟩
 | fn f fs cs=>
   obtain ⟨k0,k2⟩:=aG k1 (hr _);obtain ⟨e,e',e'',hu⟩:=Q9 hT (Ug k0);refine nilc _ _ k2 fun bb hb0 g w va vb ha hb=>?_
   cases ha;cases bb<;>cases b<;>try (exfalso;simp [Md,pNo] at hb0;done)
   cases hb;exact ⟨fun op=>by cases op<;>rfl,Es hu w _ _ _,rfl,rfl⟩
 | _=>exact absurd k1 (hr _)
end
end Go.Sim
namespace Go.Sim
open Go Go.RowKit
open Go.Abs (TE TK SK TOK TFacts)
section
variable {P:Program} {T:Nat→TE} {w0:World} {ng:Nat}
theorem Uw {o:Oper} {op:UnOp} {t:Nat} {x:Operand} (ho:o.op = .unOp op t x):HQ P T w0 ng o (hUn op):=by
 intro call _ vals hh nx K r hr h;obtain ⟨v,rfl,k1⟩:=ku h (hr _);cases op<;>simp only [opU] at k1<;>try exact absurd k1 (hr _)
 ·obtain ⟨k,n,rfl,k2⟩:=dH k1 (hr _);rw [jS] at k2;refine ⟨_,k2,fun g hp ρ w h1 h2 h3=>?_⟩;have hx:=qF (x:=x) (by simp [ho,Op.operands]) h3;generalize hvx:ρ x=vx at hx;cases hx;exact ⟨.int k (k.wrap (0-n)),by simp [execOp,ho,hvx,Op.unary,Op.intArith],.int _ _⟩
 ·obtain ⟨b,rfl,k2⟩:=qy k1 (hr _);rw [bF] at k2;refine ⟨_,k2,fun g hp ρ w h1 h2 h3=>?_⟩;have hx:=qF (x:=x) (by simp [ho,Op.operands]) h3;generalize hvx:ρ x=vx at hx;cases hx;exact ⟨.bool (!b),by simp [execOp,ho,hvx,Op.unary],.bool _⟩
theorem IV (hT:TOK P T) {o:Oper} {src dst:Nat} {x:Operand} (ho:o.op = .convert src dst x):HQ P T w0 ng o (aaA src dst):=by
 intro call _ vals hh nx K r hr h;obtain ⟨v,rfl,k1⟩:=ku h (hr _);cases h1:(T src).k<;>cases h2:(T dst).k<;>rw [h1,h2] at k1<;>simp only [adO] at k1<;>try exact absurd k1 (hr _)
 ·rename_i k1' k2';obtain ⟨k,n,rfl,k2⟩:=dH k1 (hr _);rw [jS] at k2;refine ⟨_,k2,fun g hp ρ w g1 g2 g3=>?_⟩;have hx:=qF (x:=x) (by simp [ho,Op.operands]) g3;generalize hvx:ρ x=vx at hx;cases hx;exact ⟨.int k2' (k2'.wrap n),by simp [execOp,ho,hvx,convert,run_underlying (hT.int h1),run_underlying (hT.int h2),Conv.intToInt],.int _ _⟩
 ·obtain ⟨l,n,rfl,k2⟩:=fJ k1 (hr _);refine ⟨_,k2,fun g hp ρ w g1 g2 g3=>?_⟩;have hx:=qF (x:=x) (by simp [ho,Op.operands]) g3;refine ⟨ρ x,?_,hx⟩;generalize hvx:ρ x=vx at hx;cases hx;simp [execOp,ho,hvx,convert,run_underlying (pV hT h1),run_underlying (pV hT h2)]
theorem yg {o:Oper} {mx:Bool} {x y:Operand} {ts:Array Nat} (ho:o.op = .call { callee := .builtin (if mx then .max else .min),args:=#[x,y],argTypes:=ts }):HQ P T w0 ng o (aeX mx):=by
 intro call _ vals hh nx K r hr h;obtain ⟨a,b,rfl,k1⟩:=lq h (hr _);obtain ⟨k,m,rfl,k2⟩:=dH k1 (hr _);obtain ⟨k',n,rfl,k3⟩:=dH k2 (hr _);obtain ⟨rfl,k4⟩:=dK k3 hr;rw [aQ,nN,nN] at k4;have key:∃ v,K (.int k v) hh nx=r∧v=if mx then (if n>m then n else m) else (if n<m then n else m):=by
  cases mx
  ·simp only [decide_eq_true_eq] at k4;by_cases hlt:n<m
   ·rw [if_pos hlt] at k4;exact ⟨_,k4,by simp [hlt]⟩
   ·rw [if_neg hlt] at k4;exact ⟨_,k4,by simp [hlt]⟩
  ·simp only [decide_eq_true_eq] at k4;by_cases hlt:m<n
   ·rw [if_pos hlt] at k4;exact ⟨_,k4,by simp [hlt]⟩
   ·rw [if_neg hlt] at k4;exact ⟨_,k4,by simp [hlt]⟩
 obtain ⟨v,hK,hv⟩:=key;refine ⟨_,hK,fun g hp ρ w g1 g2 g3=>?_⟩;obtain ⟨e1,e2⟩:=oK (x:=x) (y:=y) (by cases mx<;>simp [ho,Op.operands,Call.operands]) g3;generalize hvx:ρ x=vx at e1;generalize hvy:ρ y=vy at e2;cases e1;cases e2;refine ⟨.int k v,?_,.int _ _⟩;cases mx
 ·simp [execOp,ho,resolve,invoke,builtin,Builtin.min_,Builtin.min2,hvx,hvy,hv]
 ·simp [execOp,ho,resolve,invoke,builtin,Builtin.max_,Builtin.max2,hvx,hvy,hv]
theorem HR.blk {g:Gh} {hp:B→Option Obj} {t:Tr Obj} {nx:B} {w:World} (h:HR T w0 ng g hp nx w) (hs:Sub t hp) {id:B} {ro:Bool} {sz hi:Nat} {cs:Tr V} (hg:id.get t=some (.blk ro sz hi cs)) :
  ∃ cur Tb fz,w.heap[(g id).b]?=some (.cells cur Tb fz)∧(ro=false→fz=(0,0))∧(g id).o+(g id).n≤cur.size∧sz≤(g id).n ∧
    ∀ (j:Nat) v,(bOf j).get cs=some v→j<hi∧∃ u,cur[(g id).o+j]?=some u∧RV g nx.num v u∧u.oneCell'=true:=
 (h.obj id _ (hs id _ hg)).2
theorem HR.cell {g:Gh} {hp:B→Option Obj} {t:Tr Obj} {nx:B} {w:World} (h:HR T w0 ng g hp nx w) (hs:Sub t hp) {id:B} {ro:Bool} {sz hi:Nat} {cs:Tr V} (hg:id.get t=some (.blk ro sz hi cs)) {j:Nat} {v:V} (hv:(bOf j).get cs=some v) :
  ∃ u,w.cell? ⟨(g id).b,(g id).o+j,none⟩=some u∧RV g nx.num v u∧u.oneCell'=true:=by
 obtain ⟨cur,Tb,fz,h1,h2,h3,h4,h5⟩:=h.blk hs hg;obtain ⟨_,u,e1,e2,e3⟩:=h5 j v hv;exact ⟨u,by rw [cell_of_row w _ _ cur Tb fz h1];exact e1,e2,e3⟩
theorem rQ {g:Gh} {hp:B→Option Obj} {t:Tr Obj} {nx:B} {w:World} (h:HR T w0 ng g hp nx w) (hs:Sub t hp) {id:B} {ro:Bool} {sz hi:Nat} {cs:Tr V} (hg:id.get t=some (.blk ro sz hi cs))
  {off n:Nat} {vs:List V} (hv:eH cs off n=some vs) :
  ∃ f:Nat→Value,(∀ j,j<n→w.cell? ⟨(g id).b,(g id).o+off+j,none⟩=some (f j))∧∀ (j:Nat) v,vs[j]?=some v→RV g nx.num v (f j)∧(f j).oneCell'=true:=by
 obtain ⟨hl,hc⟩:=dW hv;refine ⟨fun j=>(w.cell? ⟨(g id).b,(g id).o+off+j,none⟩).getD Go.undef,fun j hj=>?_,fun j v hv'=>?_⟩
 ·have hj':j<vs.length:=by omega
  have:=hc j hj;rw [List.getElem?_eq_getElem hj'] at this;obtain ⟨u,e1,_⟩:=h.cell hs hg this;rw [← Nat.add_assoc] at e1;simp [e1]
 ·have hj:j<n:=by have:=(List.getElem?_eq_some_iff.1 hv').1;omega
  have:=hc j hj;rw [hv'] at this;obtain ⟨u,e1,e2,e3⟩:=h.cell hs hg this;rw [← Nat.add_assoc] at e1;simp only [e1,Option.getD_some];exact ⟨e2,e3⟩
theorem TW {k:TK} {n:Nat} {cs:Tr V} {off:Nat} {K:V→R} {e r:R} (h:Ii k n cs off K e=r) (he:e≠r) :
  (k.isAgg=true∧∃ vs,eH cs off n=some vs∧K (.agg vs)=r)∨(k.isAgg=false∧k ≠ .none∧∃ v,(bOf off).get cs=some v∧K v=r):=by
 have one:∀ (k:TK),(Option.rec (motive:=fun _=>R) e (fun v=>K v) ((bOf off).get cs))=r→k.isAgg=false→k ≠ .none→(k.isAgg=true∧∃ vs,eH cs off n=some vs∧K (.agg vs)=r)∨(k.isAgg=false∧k ≠ .none∧∃ v,(bOf off).get cs=some v∧K v=r):=by
  intro k h h1 h2;cases hg:(bOf off).get cs with
  | none=>rw [hg] at h;exact absurd h he
  | some v=>rw [hg] at h;exact .inr ⟨h1,h2,v,rfl,h⟩
 cases k with
 | none=>exact absurd h he
 | agg fs=>obtain ⟨vs,h1,h2⟩:=jJ h he;exact .inl ⟨rfl,vs,h1,h2⟩
 | arr m e'=>obtain ⟨vs,h1,h2⟩:=jJ h he;exact .inl ⟨rfl,vs,h1,h2⟩
 | _=>exact one _ h rfl (by simp)
theorem run_load (hT:TOK P T) {t:Nat} {g:Gh} {hp:B→Option Obj} {tr:Tr Obj} {nx:B} {w:World} (h:HR T w0 ng g hp nx w) (hs:Sub tr hp) {id:B} {ro:Bool} {sz hi:Nat} {cs:Tr V} (hg:id.get tr=some (.blk ro sz hi cs)) {off:Nat} {v:V}
  (hv:((T t).k.isAgg=true∧∃ vs,eH cs off (T t).size=some vs∧v = .agg vs)∨((T t).k.isAgg=false∧(T t).k ≠ .none∧(bOf off).get cs=some v)) :
  ∃ u,(loadVar t ⟨(g id).b,(g id).o+off,none⟩).run P w = .ok u w∧RV g nx.num v u:=by
 rcases hv with ⟨h1,vs,h2,rfl⟩ | ⟨h1,h2,h3⟩
 ·obtain ⟨d,i,hf⟩:=hT.facts (t:=t) (by intro e;rw [e] at h1;cases h1);obtain ⟨f,hf1,hf2⟩:=rQ h hs hg h2;obtain ⟨hl,_⟩:=dW h2;refine ⟨_,hf.Ih h1 w _ _ f hf1,.agg _ _ (by simp [hl]) (fun i c u hc hu=>?_) (fun i u hu=>?_)⟩
  ·have hi:i<(T t).size:=(by have:=(Array.getElem?_eq_some_iff.1 hu).1;simpa using this);simp [hi] at hu;subst hu;exact (hf2 i c hc).1
  ·have hi:i<(T t).size:=(by have:=(Array.getElem?_eq_some_iff.1 hu).1;simpa using this);simp [hi] at hu;subst hu;have hi':i<vs.length:=(by omega);exact (hf2 i _ (List.getElem?_eq_getElem hi')).2
 ·obtain ⟨d,i,hf⟩:=hT.facts h2;obtain ⟨u,e1,e2,_⟩:=h.cell hs hg h3;exact ⟨u,hf.Ig h2 h1 w _ _ u e1,e2⟩
theorem IL (hT:TOK P T) {o:Oper} {t:Nat} {x:Operand} (ho:o.op = .load t x):HQ P T w0 ng o (aak t):=by
 intro call _ vals hh nx K r hr h;obtain ⟨v,rfl,k1⟩:=ku h (hr _);obtain ⟨id,off,rfl,k2⟩:=jq k1 (hr _);obtain ⟨ro,sz,hi,cs,hg,k3⟩:=fK k2 (hr _);have key:∃ v,K v hh nx=r∧(((T t).k.isAgg=true∧∃ vs,eH cs off (T t).size=some vs∧v = .agg vs)∨((T t).k.isAgg=false∧(T t).k ≠ .none∧(bOf off).get cs=some v)):=by
  rcases TW k3 (hr _) with ⟨h1,vs,h2,h3⟩ | ⟨h1,h2,v,h3,h4⟩
  ·exact ⟨_,h3,.inl ⟨h1,vs,h2,rfl⟩⟩
  ·exact ⟨_,h4,.inr ⟨h1,h2,h3⟩⟩
 obtain ⟨v,hK,hv⟩:=key;refine ⟨_,hK,fun g hp ρ w g1 g2 g3=>?_⟩;have hx:=qF (x:=x) (by simp [ho,Op.operands]) g3;generalize hvx:ρ x=vx at hx;cases hx;obtain ⟨u,e1,e2⟩:=run_load hT g1 g2 hg hv;exact ⟨u,by simp [execOp,ho,hvx,Instr.loadAt,Instr.sureAddr,e1],e2⟩
theorem NW (hT:TOK P T) {o:Oper} {t:Nat} {x:Operand} (ho:o.op = .call { callee := .builtin .len,args:=#[x],argTypes:=#[t] }):HQ P T w0 ng o (hLen t):=by
 intro call _ vals hh nx K r hr h;obtain ⟨v,rfl,k1⟩:=ku h (hr _);have fin:∀ (n:Nat),K (.int .i64 (.ofNat n)) hh nx=r→(∀ g hp w u,HR T w0 ng g hp nx w→Sub hh hp→RV g nx.num v u→(Builtin.len_ #[t] o.type #[u]).run P w = .ok (.int .i64 n) w)→∃ v',K v' hh nx=r∧QT P T w0 ng o [v] hh nx v':=by
  intro n hK hrun;refine ⟨_,hK,fun g hp ρ w g1 g2 g3=>?_⟩;have hx:=qF (x:=x) (by simp [ho,Op.operands,Call.operands]) g3;have:=hrun g hp w _ g1 g2 hx;exact ⟨.int .i64 n,by simp [execOp,ho,resolve,invoke,builtin,this],.int _ _⟩
 cases hk:(T t).k<;>rw [hk] at k1<;>simp only [Ua] at k1<;>try exact absurd k1 (hr _)
 case str=>
  obtain ⟨l,n,rfl,k2⟩:=fJ k1 (hr _);refine fin _ k2 fun g hp w u _ _ hu=>?_
  cases hu;rename_i s hs;have e:(⟨s.toArray⟩:ByteArray).size=s.length:=by simp [ByteArray.size]
  simp [Builtin.len_,run_underlying (pV hT hk),goInt,e]
 case slc e=>
  have hu:=rX hT hk;have hl:∀ (w:World) a n c,(Builtin.len_ #[t] o.type #[.slice a n c]).run P w = .ok (.int .i64 n) w:=fun w a n c=>by
   simp [Builtin.len_,run_underlying hu,goInt]
  rcases ji k1 with ⟨id,sz,off,len,cap,rfl,k2⟩ | ⟨_,k2⟩
  ·refine fin _ k2 fun g hp w u _ _ hu=>?_
   cases hu;exact hl _ _ _ _
  ·obtain ⟨hv,k3⟩:=iI k2 (hr _);refine fin 0 k3 fun g hp w u _ _ hu=>?_
   rcases hv with rfl | rfl<;>cases hu<;>exact hl _ _ _ _
 case arr n e=>
  have hu:=xP hT hk;exact fin n k1 fun g hp w u _ _ _=>by simp [Builtin.len_,run_underlying hu,goInt]
 case map a b=>
  have hu:=Ec hT hk;rcases Je k1 with ⟨id,rfl,k2⟩ | ⟨_,k2⟩
  ·obtain ⟨kt,es,hg,k3⟩:=uP k2 (hr _);rw [aI] at k3;refine fin _ k3 fun g hp w u g1 g2 hu'=>?_
   cases hu';obtain ⟨_,ents,clock,e1,e2,_⟩:=g1.obj _ _ (g2 _ _ hg);simp [Builtin.len_,run_underlying hu,goInt,Go.MapKept.run_getObj_map e1,e2]
  ·obtain ⟨rfl,k3⟩:=Dh k2 (hr _);refine fin 0 k3 fun g hp w u _ _ hu'=>?_
   cases hu';simp [Builtin.len_,run_underlying hu,goInt]
end
end Go.Sim
