/- Sim: facts: what comes back; a fact is sound. -/
import Derived.Test.YtpmapognbdiahaaGreatDoorSimQAnd
import Derived.Laws.Externs
import Derived.Lib.Bytealg
set_option linter.all false
namespace Go.Sim
open Go Go.RowKit
open Go.Abs (TE TK SK TOK)
def ED (ng m nx nx':Nat) (ρ:Tr B) (i j:B):Prop:=Dof ng ρ i j∨Ql m nx nx' i j
noncomputable def sI {R:Type} (ng m n nx:Nat) (ρ:Tr B) (i:B) (K:B→R) (e:R):R:=
 aJ (Nat.blt i.n ng) (K i) (aJ (Nat.blt i.n m) (bK (i.get ρ) K e) (aJ (Nat.blt i.n n) (aT (Nat.add nx (Nat.sub i.n m)) fun j=>K ⟨j⟩) e))
theorem LH {R:Type} {ng m n nx:Nat} {ρ:Tr B} {i:B} {K:B→R} {e r:R} (h:sI ng m n nx ρ i K e=r) (he:e≠r):∃ j,K j=r∧ED ng m nx (nx+(n-m)) ρ i j:=by
 unfold sI at h;rw [aQ] at h;split at h
 ·rename_i h1;exact ⟨i,h,.inl (.inl ⟨aN.1 h1,rfl⟩)⟩
 ·rename_i h1;have h1:ng≤i.num:=by
   have:¬ i.n<ng:=fun h'=>h1 (aN.2 h')
   exact Nat.not_lt.1 this
  rw [aQ] at h;split at h
  ·rw [PG] at h;split at h
   ·rename_i j hj;exact ⟨j,h,.inl (.inr ⟨h1,hj⟩)⟩
   ·exact absurd h he
  ·rename_i h2;have h2:¬ i.n<m:=fun h'=>h2 (aN.2 h')
   obtain ⟨h3,h4⟩:=aG h he;have h3:=aN.1 h3;rw [aI] at h4;refine ⟨⟨nx+(i.n-m)⟩,h4,.inr ⟨?_,?_,?_,?_⟩⟩
   ·show m≤i.n;omega
   ·show nx≤nx+(i.n-m);omega
   ·show nx+(i.n-m)<nx+(n-m);omega
   ·show nx+(i.n-m)-nx=i.n-m;omega
noncomputable def sL {R:Type} (s:V→(V→R)→R→R) (l:List V):(List V→R)→R→R:=
 List.rec (motive:=fun _=>(List V→R)→R→R) (fun K _=>K []) (fun x _ ih K e=>s x (fun y=>ih (fun ys=>K (y::ys)) e) e) l
noncomputable def sV {R:Type} (ng m n nx:Nat) (ρ:Tr B):Nat→V→(V→R)→R→R
 | 0,_,_,e=>e
 | d+1,v,K,e=>match v with
   | .bool b=>K (.bool b)
   | .int k x=>K (.int k x)
   | .str l x=>K (.str l x)
   | .fC=>K .fC
   | .ptr i o=>sI ng m n nx ρ i (fun j=>K (.ptr j o)) e
   | .aj=>K .aj
   | .gq=>K .gq
   | .sl i sz o l c=>sI ng m n nx ρ i (fun j=>K (.sl j sz o l c)) e
   | .gU=>K .gU
   | .map i=>sI ng m n nx ρ i (fun j=>K (.map j)) e
   | .gZ=>K .gZ
   | .fn f fs cs=>sL (sV ng m n nx ρ d) fs (fun fs=>sL (sV ng m n nx ρ d) cs (fun cs=>K (.fn f fs cs)) e) e
   | .iy=>K .iy
   | .ifc t v=>sV ng m n nx ρ d v (fun v=>K (.ifc t v)) e
   | .agg cs=>sL (sV ng m n nx ρ d) cs (fun cs=>K (.agg cs)) e
   | .tup cs=>sL (sV ng m n nx ρ d) cs (fun cs=>K (.tup cs)) e
   | .any=>K .any
   | .undef=>e
def AL (R:Type) (E:B→B→Prop) (s:V→(V→R)→R→R):Prop:=∀ v K e r,s v K e=r→e≠r→∃ v',K v'=r∧dJ (fun j i=>E i j) v' v
theorem BH {R:Type} {E:B→B→Prop} {s:V→(V→R)→R→R} (hs:AL R E s):∀ (l:List V) (K:List V→R) (e r:R),sL s l K e=r→e≠r→∃ l',K l'=r∧pO (fun j i=>E i j) l' l
 | [],K,e,r,h,_=>⟨[],h,.nil⟩
 | x::l,K,e,r,h,he=>by
   have h':s x (fun y=>sL s l (fun ys=>K (y::ys)) e) e=r:=h;obtain ⟨y,k1,k2⟩:=hs x _ e r h' he;obtain ⟨ys,k3,k4⟩:=BH hs l _ e r k1 he;exact ⟨y::ys,k3,.cons k2 k4⟩
theorem RG {R:Type} {ng m n nx:Nat} {ρ:Tr B}:∀ d,AL R (ED ng m nx (nx+(n-m)) ρ) (sV ng m n nx ρ d)
 | 0=>fun v K e r h he=>absurd h he
 | d+1=>fun v K e r h he=>by
   have ih:=RG (R:=R) (ng:=ng) (m:=m) (n:=n) (nx:=nx) (ρ:=ρ) d;cases v with
   | bool b=>exact ⟨_,h,.bool b⟩
   | int k x=>exact ⟨_,h,.int k x⟩
   | str l x=>exact ⟨_,h,.str l x⟩
   | fC=>exact ⟨_,h,.fC⟩
   | ptr i o=>
     obtain ⟨j,k1,k2⟩:=LH (show sI ng m n nx ρ i (fun j=>K (.ptr j o)) e=r from h) he;exact ⟨_,k1,.ptr _ _ _ k2⟩
   | aj=>exact ⟨_,h,.aj⟩
   | gq=>exact ⟨_,h,.gq⟩
   | sl i sz o l c=>
     obtain ⟨j,k1,k2⟩:=LH (show sI ng m n nx ρ i (fun j=>K (.sl j sz o l c)) e=r from h) he;exact ⟨_,k1,.sl _ _ _ _ _ _ k2⟩
   | gU=>exact ⟨_,h,.gU⟩
   | map i=>
     obtain ⟨j,k1,k2⟩:=LH (show sI ng m n nx ρ i (fun j=>K (.map j)) e=r from h) he;exact ⟨_,k1,.map _ _ k2⟩
   | gZ=>exact ⟨_,h,.gZ⟩
   | fn f fs cs=>
     obtain ⟨fs',k1,k2⟩:=BH ih fs _ e r (show sL (sV ng m n nx ρ d) fs (fun fs=>sL (sV ng m n nx ρ d) cs (fun cs=>K (.fn f fs cs)) e) e=r from h) he;obtain ⟨cs',k3,k4⟩:=BH ih cs _ e r k1 he;exact ⟨_,k3,.fn _ _ _ _ _ k2.1 k2.2 k4.1 k4.2⟩
   | iy=>exact ⟨_,h,.iy⟩
   | ifc t v=>
     obtain ⟨v',k1,k2⟩:=ih v _ e r (show sV ng m n nx ρ d v (fun v=>K (.ifc t v)) e=r from h) he;exact ⟨_,k1,.ifc _ _ _ k2⟩
   | agg cs=>
     obtain ⟨cs',k1,k2⟩:=BH ih cs _ e r (show sL (sV ng m n nx ρ d) cs (fun cs=>K (.agg cs)) e=r from h) he;exact ⟨_,k1,.agg _ _ k2.1 k2.2⟩
   | tup cs=>
     obtain ⟨cs',k1,k2⟩:=BH ih cs _ e r (show sL (sV ng m n nx ρ d) cs (fun cs=>K (.tup cs)) e=r from h) he;exact ⟨_,k1,.tup _ _ k2.1 k2.2⟩
   | any=>exact ⟨_,h,.any⟩
   | undef=>exact absurd h he
inductive SO (E:B→B→Prop):FO→Obj→Prop
 | blk (ro:Bool) (sz:Nat) (cs cs':List V):pO (fun j i=>E i j) cs' cs→SO E (.blk ro sz cs) (.blk ro sz cs'.length (fB cs' .lf 0))
 | map (kt:Nat) (es es':List (V×V)):es'.length=es.length→(∀ (i:Nat) e' e,es'[i]?=some e'→es[i]?=some e→dJ (fun j i=>E i j) e'.1 e.1∧dJ (fun j i=>E i j) e'.2 e.2)→SO E (.map kt es) (.map kt es')
noncomputable def sEs {R:Type} (s:V→(V→R)→R→R) (l:List (V×V)):(List (V×V)→R)→R→R:=
 List.rec (motive:=fun _=>(List (V×V)→R)→R→R) (fun K _=>K []) (fun x _ ih K e=>s x.1 (fun a=>s x.2 (fun b=>ih (fun ys=>K ((a,b)::ys)) e) e) e) l
noncomputable def sO {R:Type} (s:V→(V→R)→R→R) (fo:FO) (K:Obj→R) (e:R):R:=match fo with
 | .blk ro sz cs=>sL s cs (fun cs=>l9 cs .lf 0 fun tr=>aT cs.length fun h=>K (.blk ro sz h tr)) e
 | .map kt es=>sEs s es (fun es=>K (.map kt es)) e
theorem RH {R:Type} {E:B→B→Prop} {s:V→(V→R)→R→R} (hs:AL R E s):∀ (l:List (V×V)) (K:List (V×V)→R) (e r:R),sEs s l K e=r→e≠r→∃ l',K l'=r∧l'.length=l.length ∧
  ∀ (i:Nat) e' e,l'[i]?=some e'→l[i]?=some e→dJ (fun j i=>E i j) e'.1 e.1∧dJ (fun j i=>E i j) e'.2 e.2
 | [],K,e,r,h,_=>⟨[],h,rfl,fun i a b ha=>by simp at ha⟩
 | x::l,K,e,r,h,he=>by
   have h':s x.1 (fun a=>s x.2 (fun b=>sEs s l (fun ys=>K ((a,b)::ys)) e) e) e=r:=h;obtain ⟨a,k1,k2⟩:=hs _ _ e r h' he;obtain ⟨b,k3,k4⟩:=hs _ _ e r k1 he;obtain ⟨l',k5,k6,k7⟩:=RH hs l _ e r k3 he;refine ⟨(a,b)::l',k5,by simp [k6],fun i u v hu hv=>?_⟩;cases i with
   | zero=>simp at hu hv;subst hu;subst hv;exact ⟨k2,k4⟩
   | succ i=>simp at hu hv;exact k7 i u v hu hv
theorem ag0 {R:Type} {E:B→B→Prop} {s:V→(V→R)→R→R} (hs:AL R E s) {fo:FO} {K:Obj→R} {e r:R} (h:sO s fo K e=r) (he:e≠r):∃ o,K o=r∧SO E fo o:=by
 cases fo with
 | blk ro sz cs=>
   obtain ⟨cs',k1,k2⟩:=BH hs cs _ e r (show sL s cs (fun cs=>l9 cs .lf 0 fun tr=>aT cs.length fun h=>K (.blk ro sz h tr)) e=r from h) he;rw [dS,aI] at k1;exact ⟨_,k1,.blk ro sz cs cs' k2⟩
 | map kt es=>
   obtain ⟨es',k1,k2,k3⟩:=RH hs es _ e r (show sEs s es (fun es=>K (.map kt es)) e=r from h) he;exact ⟨_,k1,.map kt es es' k2 k3⟩
noncomputable def psK {R:Type} (s:V→(V→R)→R→R) (si:B→(B→R)→R→R) (l:List (Nat×FO)):Tr Obj→(Tr Obj→R)→R→R:=
 List.rec (motive:=fun _=>Tr Obj→(Tr Obj→R)→R→R) (fun t K _=>K t) (fun x _ ih t K e=>si (bOf x.1) (fun j=>sO s x.2 (fun o=>j.jv t (some o) fun t=>ih t K e) e) e) l
def Ll (R:Type) (E:B→B→Prop) (si:B→(B→R)→R→R):Prop:=∀ i K e r,si i K e=r→e≠r→∃ j,K j=r∧E i j
theorem Tn {R:Type} {E:B→B→Prop} {s:V→(V→R)→R→R} {si:B→(B→R)→R→R} (hs:AL R E s) (hi:Ll R E si):∀ (l:List (Nat×FO)) (t:Tr Obj) (K:Tr Obj→R) (e r:R),psK s si l t K e=r→e≠r →
  ∃ t',K t'=r∧(∀ (j:B) p,j.get t'=some p→(∃ x∈l,E (bOf x.1) j∧SO E x.2 p)∨j.get t=some p)∧∀ j:B,(∀ x∈l,¬ E (bOf x.1) j)→j.get t'=j.get t
 | [],t,K,e,r,h,_=>⟨t,h,fun j p hp => .inr hp,fun _ _=>rfl⟩
 | x::l,t,K,e,r,h,he=>by
   have h':si (bOf x.1) (fun j=>sO s x.2 (fun o=>j.jv t (some o) fun t=>psK s si l t K e) e) e=r:=h;obtain ⟨j,k1,k2⟩:=hi _ _ e r h' he;obtain ⟨o,k3,k4⟩:=ag0 hs k1 he;rw [B.eu] at k3;obtain ⟨t',k5,k6,k7⟩:=Tn hs hi l _ K e r k3 he;refine ⟨t',k5,fun a p hp=>?_,fun a ha=>?_⟩
   ·rcases k6 a p hp with ⟨y,q1,q2⟩ | q
    ·exact .inl ⟨y,List.mem_cons_of_mem _ q1,q2⟩
    ·rw [B.get_put] at q;split at q
     ·rename_i e1;subst e1;cases q;exact .inl ⟨x,List.mem_cons_self,k2,k4⟩
     ·exact .inr q
   ·rw [k7 a fun y hy=>ha y (List.mem_cons_of_mem _ hy),B.get_put,if_neg];rintro rfl;exact ha x List.mem_cons_self k2
noncomputable def rmK {R:Type} (si:B→(B→R)→R→R) (l:List Nat):Tr Obj→(Tr Obj→R)→R→R:=
 List.rec (motive:=fun _=>Tr Obj→(Tr Obj→R)→R→R) (fun t K _=>K t) (fun x _ ih t K e=>si (bOf x) (fun j=>j.jv t none fun t=>ih t K e) e) l
theorem RX {R:Type} {E:B→B→Prop} (hf:∀ i j k,E i j→E i k→j=k) {si:B→(B→R)→R→R} (hi:Ll R E si):∀ (l:List Nat) (t:Tr Obj) (K:Tr Obj→R) (e r:R),rmK si l t K e=r→e≠r →
  ∃ t',K t'=r∧(∀ (j:B) p,j.get t'=some p→j.get t=some p∧∀ x∈l,¬ E (bOf x) j)∧∀ j:B,(∀ x∈l,¬ E (bOf x) j)→j.get t'=j.get t
 | [],t,K,e,r,h,_=>⟨t,h,fun j p hp=>⟨hp,fun x hx=>by cases hx⟩,fun _ _=>rfl⟩
 | x::l,t,K,e,r,h,he=>by
   have h':si (bOf x) (fun j=>j.jv t none fun t=>rmK si l t K e) e=r:=h;obtain ⟨j,k1,k2⟩:=hi _ _ e r h' he;rw [B.eu] at k1;obtain ⟨t',k5,k6,k7⟩:=RX hf hi l _ K e r k1 he;refine ⟨t',k5,fun a p hp=>?_,fun a ha=>?_⟩
   ·obtain ⟨q1,q2⟩:=k6 a p hp;rw [B.get_put] at q1;split at q1
    ·cases q1
    ·rename_i hne;refine ⟨q1,fun y hy hE=>?_⟩;rcases List.mem_cons.1 hy with rfl | hy
     ·exact hne (hf _ _ _ hE k2)
     ·exact q2 y hy hE
   ·rw [k7 a fun y hy=>ha y (List.mem_cons_of_mem _ hy),B.get_put,if_neg];rintro rfl;exact ha x List.mem_cons_self k2
noncomputable def QI (q:V→V→Bool) (a:List V):List V→Bool:=
 List.rec (motive:=fun _=>List V→Bool) (fun b=>match b with | []=>true | _=>false) (fun x _ ih b=>match b with | y::ys=>and (q x y) (ih ys) | []=>false) a
noncomputable def eqX:Nat→V→V→Bool
 | 0,_,_=>false
 | d+1,a,b=>match a,b with
   | .bool x,.bool y=>qI x y
   | .int k x,.int k' y=>and (Nat.beq (ikN k) (ikN k')) (eqI x y)
   | .str l x,.str l' y=>strEq l x l' y
   | .fC,.fC=>true
   | .ptr i o,.ptr j o'=>and (Nat.beq i.n j.n) (Nat.beq o o')
   | .aj,.aj=>true
   | .gq,.gq=>true
   | .sl i sz o l c,.sl j sz' o' l' c'=>and (Nat.beq i.n j.n) (and (and (Nat.beq sz sz') (Nat.beq o o')) (and (Nat.beq l l') (eqO c c')))
   | .gU,.gU=>true
   | .map i,.map j=>Nat.beq i.n j.n
   | .gZ,.gZ=>true
   | .fn f fs cs,.fn f' fs' cs'=>and (Nat.beq f f') (and (QI (eqX d) fs fs') (QI (eqX d) cs cs'))
   | .iy,.iy=>true
   | .ifc t v,.ifc t' v'=>and (Nat.beq t t') (eqX d v v')
   | .agg cs,.agg cs'=>QI (eqX d) cs cs'
   | .tup cs,.tup cs'=>QI (eqX d) cs cs'
   | .any,.any=>true
   | _,_=>false
theorem uD {q:V→V→Bool} (hq:∀ a b,q a b=true→a=b):∀ a b,QI q a b=true→a=b
 | [],[],_=>rfl
 | [],_::_,h=>by cases h
 | _::_,[],h=>by cases h
 | x::a,y::b,h=>by
   obtain ⟨h1,h2⟩:=aB (show and (q x y) (QI q a b)=true from h);rw [hq x y h1,uD hq a b h2]
theorem Ac:∀ d a b,eqX d a b=true→a=b
 | 0,_,_,h=>by cases h
 | d+1,a,b,h=>by
   have ih:=Ac d;unfold eqX at h;split at h
   ·rw [kG.1 h]
   ·obtain ⟨h3,h4⟩:=aB h;rw [jI h3,Fq h4]
   ·obtain ⟨rfl,rfl⟩:=Bz h;rfl
   ·rfl
   ·obtain ⟨h1,h2⟩:=aB h;rw [B.eG (beq_iff.1 h1),beq_iff.1 h2]
   ·rfl
   ·rfl
   ·obtain ⟨h0,h⟩:=aB h;obtain ⟨h3,h4⟩:=aB h;obtain ⟨h5,h6⟩:=aB h3;obtain ⟨h7,h8⟩:=aB h4;rw [B.eG (beq_iff.1 h0),beq_iff.1 h5,beq_iff.1 h6,beq_iff.1 h7,Fp h8]
   ·rfl
   ·rw [B.eG (beq_iff.1 h)]
   ·rfl
   ·obtain ⟨h0,h⟩:=aB h;obtain ⟨h1,h2⟩:=aB h;rw [beq_iff.1 h0,uD ih _ _ h1,uD ih _ _ h2]
   ·rfl
   ·obtain ⟨h0,h⟩:=aB h;rw [beq_iff.1 h0,ih _ _ h]
   ·rw [uD ih _ _ h]
   ·rw [uD ih _ _ h]
   ·rfl
   ·cases h
inductive FO.In:FO→Obj→Prop
 | blk (ro:Bool) (sz sz' hi:Nat) (cs:List V) (cs':Tr V):sz≤sz'→(∀ (j:Nat) v,cs[j]?=some v→(bOf j).get cs'=some v)→FO.In (.blk ro sz cs) (.blk ro sz' hi cs')
 | map (kt:Nat) (es:List (V×V)):FO.In (.map kt es) (.map kt es)
noncomputable def X0 (cs':Tr V) (cs:List V):Nat→Bool:=
 List.rec (motive:=fun _=>Nat→Bool) (fun _=>true) (fun x _ ih off=>Option.rec (motive:=fun _=>Bool) false (fun y=>and (eqX 4 x y) (ih (Nat.succ off))) ((bOf off).get cs')) cs
noncomputable def afq (a:List (V×V)):List (V×V)→Bool:=
 List.rec (motive:=fun _=>List (V×V)→Bool) (fun b=>match b with | []=>true | _=>false) (fun x _ ih b=>match b with | y::ys=>and (and (eqX 4 x.1 y.1) (eqX 4 x.2 y.2)) (ih ys) | []=>false) a
noncomputable def inO (fo:FO) (o:Option Obj):Bool:=match fo,o with
 | .blk ro sz cs,some (.blk ro' sz' _ cs')=>and (qI ro ro') (and (Nat.ble sz sz') (X0 cs' cs 0))
 | .map kt es,some (.map kt' es')=>and (Nat.beq kt kt') (afq es es')
 | _,_=>false
theorem Fa {cs':Tr V}:∀ (cs:List V) (off:Nat),X0 cs' cs off=true→∀ (j:Nat) v,cs[j]?=some v→(bOf (off+j)).get cs'=some v
 | [],_,_,j,v,h=>by simp at h
 | x::cs,off,h,j,v,hv=>by
   have h':Option.rec (motive:=fun _=>Bool) false (fun y=>and (eqX 4 x y) (X0 cs' cs (off+1))) ((bOf off).get cs')=true:=h;cases hg:(bOf off).get cs' with
   | none=>rw [hg] at h';cases h'
   | some y=>
     rw [hg] at h';obtain ⟨h1,h2⟩:=aB h';have:=Ac 4 x y h1;subst this;cases j with
     | zero=>simp at hv;subst hv;exact hg
     | succ j=>
       simp at hv;rw [← Fa cs (off+1) h2 j v hv];congr 2;omega
theorem Oj:∀ a b,afq a b=true→a=b
 | [],[],_=>rfl
 | [],_::_,h=>by cases h
 | _::_,[],h=>by cases h
 | (x1,x2)::a,(y1,y2)::b,h=>by
   obtain ⟨h1,h2⟩:=aB (show and (and (eqX 4 x1 y1) (eqX 4 x2 y2)) (afq a b)=true from h);obtain ⟨h3,h4⟩:=aB h1;rw [Ac 4 _ _ h3,Ac 4 _ _ h4,Oj a b h2]
theorem zL {fo:FO} {o:Option Obj} (h:inO fo o=true):∃ o1,o=some o1∧fo.In o1:=by
 unfold inO at h;split at h
 ·obtain ⟨h1,h2⟩:=aB h;obtain ⟨h3,h4⟩:=aB h2;have:=kG.1 h1;subst this;exact ⟨_,rfl,.blk _ _ _ _ _ _ (aY.1 h3) fun j v hv=>by simpa using Fa _ 0 h4 j v hv⟩
 ·obtain ⟨h1,h2⟩:=aB h;have:=beq_iff.1 h1;subst this;have:=Oj _ _ h2;subst this;exact ⟨_,rfl,.map _ _⟩
 ·cases h
structure bD (P:Program) (T:Nat→TE) (w0:World) (ng f:Nat) (F:Fact):Prop where
 ngm:ng≤F.m
 mle:F.m≤F.n
 cover:∀ x∈F.pre,x.1∈F.gone∨x.1∈F.same
 ae0:∀ i∈F.gone,∃ fo,(i,fo)∈F.pre
 aei:∀ x∈F.post,F.m≤x.1∨∃ fo,(x.1,fo)∈F.pre
 run:∃ t1,pU P T w0 ng f F.args (eY F.pre .lf) ⟨F.m⟩ F.v t1 ⟨F.n⟩∧(∀ x∈F.post,∃ o1,(bOf x.1).get t1=some o1∧x.2.In o1)∧∀ x∈F.pre,x.1∈F.same→∃ o1,(bOf x.1).get t1=some o1∧x.2.In o1
noncomputable def yj (ng:Nat) (F:Fact) (args:List V) (t:Tr Obj) (nx:B) (e:FR):FR:=
 aJ (Nat.ble ng nx.n) (uL (uV ng F.m nx.n 4) F.args args .lf .lf (fun ρ σ=>uOs (uV ng F.m nx.n 4) ng t F.pre ρ σ (fun ρ _=>
  rmK (sI ng F.m F.n nx.n ρ) F.gone t (fun t=>psK (sV ng F.m F.n nx.n ρ 4) (sI ng F.m F.n nx.n ρ) F.post t (fun t=>sV ng F.m F.n nx.n ρ 4 F.v (fun v=>aT (Nat.add nx.n (Nat.sub F.n F.m)) fun k => .ret v t ⟨k⟩) e) e) e) e) e) e
section
variable {P:Program} {T:Nat→TE} {w0:World} {ng:Nat}
theorem P6 {D:B→B→Prop} {k:SK} {a b:V} (h:dJ D a b):gW k a=gW k b:=by
 cases h<;>first | rfl | (cases k<;>rfl)
theorem BJ {D:B→B→Prop}:∀ {ks:List SK} {a b:List V},pO D a b→fits ks a=fits ks b
 | [],[],[],_=>rfl
 | [],[],_::_,h=>absurd h.1 (by simp)
 | [],_::_,[],h=>absurd h.1 (by simp)
 | [],_::_,_::_,_=>rfl
 | k::ks,[],[],_=>rfl
 | k::ks,[],_::_,h=>absurd h.1 (by simp)
 | k::ks,_::_,[],h=>absurd h.1 (by simp)
 | k::ks,x::a,y::b,h=>by
   show and (gW k x) (fits ks a)=and (gW k y) (fits ks b);rw [P6 (h.2 0 x y rfl rfl),BJ (a:=a) (b:=b) ⟨by simpa using h.1,fun i u v hu hv=>h.2 (i+1) u v (by simpa using hu) (by simpa using hv)⟩]
theorem oL {D:B→B→Prop} {te:TE} {a b:V} (h:dJ D a b):bW te a=bW te b:=by
 have h1:∀ (x y:V),dJ D x y→pO D [x] [y]:=fun x y h => .cons h .nil
 have h2:pO D (cellsOf a) (cellsOf b)∧asAgg a (fun _=>true) false=asAgg b (fun _=>true) false:=by
  cases h with
  | agg cs cs' k1 k2=>exact ⟨⟨k1,k2⟩,rfl⟩
  | bool b=>exact ⟨h1 _ _ (.bool b),rfl⟩
  | int k m=>exact ⟨h1 _ _ (.int k m),rfl⟩
  | str l m=>exact ⟨h1 _ _ (.str l m),rfl⟩
  | fC=>exact ⟨h1 _ _ .fC,rfl⟩
  | ptr i j o h=>exact ⟨h1 _ _ (.ptr i j o h),rfl⟩
  | aj=>exact ⟨h1 _ _ .aj,rfl⟩
  | gq=>exact ⟨h1 _ _ .gq,rfl⟩
  | sl i j sz o l c h=>exact ⟨h1 _ _ (.sl i j sz o l c h),rfl⟩
  | gU=>exact ⟨h1 _ _ .gU,rfl⟩
  | map i j h=>exact ⟨h1 _ _ (.map i j h),rfl⟩
  | gZ=>exact ⟨h1 _ _ .gZ,rfl⟩
  | fn f fs fs' cs cs' k1 k2 k3 k4=>exact ⟨h1 _ _ (.fn f fs fs' cs cs' k1 k2 k3 k4),rfl⟩
  | iy=>exact ⟨h1 _ _ .iy,rfl⟩
  | ifc t v v' h=>exact ⟨h1 _ _ (.ifc t v v' h),rfl⟩
  | tup cs cs' k1 k2=>exact ⟨h1 _ _ (.tup cs cs' k1 k2),rfl⟩
  | any=>exact ⟨h1 _ _ .any,rfl⟩
 unfold bW;rw [BJ h2.1,h2.2]
theorem UO.pull {D:B→B→Prop} {fo:FO} {o:Obj} (h:UO D fo o):wE T D fo.obj o:=by
 cases h with
 | blk ro sz cs cs' h=>
   refine .blk ro sz sz _ _ _ _ (Nat.le_refl _) fun j v hv=>?_
   rw [bY] at hv;split at hv
   ·rename_i hj;rw [Nat.sub_zero] at hv;exact ⟨by omega,h j v hv⟩
   ·rw [B.dO] at hv;cases hv
 | map kt es es' h1 h2=>
   refine .map kt es es' h1 h2 fun hk e he=>?_
   obtain ⟨i,hi⟩:=List.getElem?_of_mem he;obtain ⟨e',he'⟩:=dX h1 hi;rw [oL (h2 i e e' hi he').1];exact hk e' (List.mem_of_getElem? he')
theorem UO.push {D E:B→B→Prop} (hD:∀ i j,D i j→E i j) {fo:FO} {o o1:Obj} (h:UO D fo o) (hh:agL o) (hi:fo.In o1):wE T (fun j i=>E i j) o o1:=by
 cases h with
 | blk ro sz cs cs' h=>
   cases hi with
   | blk _ _ sz1 hi1 _ cs1 k1 k2=>
     refine .blk ro sz sz1 _ _ _ _ k1 fun j v hv=>?_
     have hj:=hh j v hv;have ha:cs[j]?=some cs[j]:=List.getElem?_eq_getElem hj;obtain ⟨b,q1,q2⟩:=h j _ ha;rw [hv] at q1;cases q1;exact ⟨hj,_,k2 j _ ha,(q2.mono hD).symm⟩
 | map kt es es' h1 h2=>
   cases hi with
   | map _ _=>
     refine .map kt es' es h1.symm (fun i e e' he he'=>?_) fun hk e he=>?_
     ·obtain ⟨a,b⟩:=h2 i e' e he' he;exact ⟨(a.mono hD).symm,(b.mono hD).symm⟩
     ·obtain ⟨i,hi⟩:=List.getElem?_of_mem he;obtain ⟨e',he'⟩:=dX h1.symm hi;rw [← oL (h2 i e' e he' hi).1];exact hk e' (List.mem_of_getElem? he')
theorem SO.push {E:B→B→Prop} {fo:FO} {o o1:Obj} (h:SO E fo o) (hi:fo.In o1):wE T (fun j i=>E i j) o o1:=by
 cases h with
 | blk ro sz cs cs' h=>
   cases hi with
   | blk _ _ sz1 hi1 _ cs1 k1 k2=>
     refine .blk ro sz sz1 _ _ _ _ k1 fun j v hv=>?_
     rw [bY] at hv;split at hv
     ·rename_i hj;rw [Nat.sub_zero] at hv;obtain ⟨y,hy⟩:=dX h.1 hv;exact ⟨by omega,y,k2 j y hy,h.2 j v y hv hy⟩
     ·rw [B.dO] at hv;cases hv
 | map kt es es' h1 h2=>
   cases hi with
   | map _ _=>
     refine .map kt es' es h1 h2 fun hk e he=>?_
     obtain ⟨i,hi⟩:=List.getElem?_of_mem he;obtain ⟨e',he'⟩:=dX h1 hi;rw [oL (h2 i e e' hi he').1];exact hk e' (List.mem_of_getElem? he')
theorem UI.empty {ng m nx:Nat}:UI ng m nx .lf .lf:=⟨fun i j h=>(by rw [B.dO] at h;cases h),fun i j h=>(by rw [B.dO] at h;cases h)⟩
theorem bD.met {f:Nat} {F:Fact} (hF:bD P T w0 ng f F) {args:List V} {t:Tr Obj} {nx:B} {e:FR} {v:V} {t':Tr Obj} {nx':B} (h:yj ng F args t nx e = .ret v t' nx') :
  e = .ret v t' nx'∨pU P T w0 ng f args t nx v t' nx':=by
 by_cases he:e = .ret v t' nx'
 ·exact .inl he
 right;unfold yj at h;obtain ⟨h0,h⟩:=aG h he;have h0:ng≤nx.num:=aY.1 h0;obtain ⟨ρ1,σ1,h,u1,x1,ra⟩:=Bv (Rf 4) _ _ _ _ _ _ _ h he UI.empty;obtain ⟨ρ,σ,h,u2,x2,ro⟩:=Rh (Rf 4) _ _ _ _ _ _ h he u1;have ra:=ra.mono fun i j (hd:Dof ng ρ1 i j)=>hd.mono x2
 let E:=ED ng F.m nx.num (nx.num+(F.n-F.m)) ρ
 have hsi:Ll FR E (sI ng F.m F.n nx.n ρ):=fun i K e r h he=>LH h he
 have hf1:∀ i j k,Dof ng ρ i j→Dof ng ρ i k→j=k:=fun i j k h1 h2=>by
  rcases h1 with ⟨a1,a2⟩ | ⟨a1,a2⟩<;>rcases h2 with ⟨b1,b2⟩ | ⟨b1,b2⟩
  ·rw [← a2,b2]
  ·omega
  ·omega
  ·rw [a2] at b2;exact Option.some.inj b2
 have hlow:∀ i j,Dof ng ρ i j→i.num<F.m∧j.num<nx.num:=fun i j h=>by
  have:=hF.ngm;rcases h with ⟨a1,a2⟩ | ⟨a1,a2⟩
  ·subst a2;exact ⟨by omega,by omega⟩
  ·obtain ⟨_,_,q1,_,q2⟩:=u2.to i j a2;exact ⟨q1,q2⟩
 have hf2:∀ i j k,Dof ng ρ i k→Dof ng ρ j k→i=j:=fun i j k h1 h2=>by
  rcases h1 with ⟨a1,a2⟩ | ⟨a1,a2⟩<;>rcases h2 with ⟨b1,b2⟩ | ⟨b1,b2⟩
  ·rw [a2,b2]
  ·obtain ⟨_,_,_,q,_⟩:=u2.to j k b2;subst a2;omega
  ·obtain ⟨_,_,_,q,_⟩:=u2.to i k a2;subst b2;omega
  ·have q1:=(u2.to i k a2).1;have q2:=(u2.to j k b2).1;rw [q1] at q2;exact Option.some.inj q2
 have hfE:∀ i j k,E i j→E i k→j=k:=fun i j k h1 h2=>by
  rcases h1 with h1 | ⟨a1,a2,a3,a4⟩<;>rcases h2 with h2 | ⟨b1,b2,b3,b4⟩
  ·exact hf1 i j k h1 h2
  ·exact absurd (hlow i j h1).1 (by omega)
  ·exact absurd (hlow i k h2).1 (by omega)
  ·exact B.eG (by omega)
 obtain ⟨ta,h,r1,r2⟩:=RX hfE hsi _ _ _ _ _ h he;obtain ⟨tb,h,p1,p2⟩:=Tn (E:=E) (RG 4) hsi _ _ _ _ _ h he;obtain ⟨v1,h,hv⟩:=RG (R:=FR) 4 _ _ _ _ h he;rw [aI] at h;cases h;obtain ⟨t1,hc,c1,c2⟩:=hF.run;have hpre:∀ (i:B) (o:Obj),i.get (eY F.pre .lf)=some o→∃ fo,(i.num,fo)∈F.pre∧o=fo.obj:=fun i o ho=>by
  rcases tJ F.pre .lf i o ho with h | h
  ·exact h
  ·rw [B.dO] at h;cases h
 have hin:∀ (k:Nat) fo,(k,fo)∈F.pre→∀ j,E (bOf k) j→k<F.m→∃ i o,B.get i (eY F.pre .lf)=some o∧Dof ng ρ i j:=fun k fo hk j hE hm=>by
  have:=Cb F.pre .lf (bOf k) (.inr ⟨fo,hk⟩);obtain ⟨o,ho⟩:=Option.isSome_iff_exists.1 this;rcases hE with hE | ⟨a1,_⟩
  ·exact ⟨_,o,ho,hE⟩
  ·exact absurd a1 (by show ¬ F.m≤k;omega)
 have hpm:∀ x∈F.pre,x.1<F.m:=fun x hx=>by
  obtain ⟨j,o,d1,_⟩:=ro x hx;exact (hlow _ _ d1).1
 refine pU.ren hc hF.ngm hF.mle (D:=Dof ng ρ) (fun i hi => .inl ⟨hi,rfl⟩) hf1 hf2 hlow rfl ra (fun i o ho=>?_) hv (fun i j o p ho hd hp hh hj p' hp'=>?_) (fun j p' hj hn hp'=>?_) fun j hj hn=>?_
 ·obtain ⟨fo,q1,q2⟩:=hpre i o ho;obtain ⟨j,p,d1,d2,d3⟩:=ro _ q1;have:bOf i.num=i:=rfl;rw [q2];exact ⟨j,p,d1,d2,d3.pull⟩
 ·rcases p1 j p' hp' with ⟨x,q1,q2,q3⟩ | q
  ·have hx:bOf x.1=i:=by
    rcases q2 with q2 | ⟨_,a2,_⟩
    ·exact hf2 _ _ _ q2 hd
    ·omega
   obtain ⟨o1,e1,e2⟩:=c1 x q1;rw [hx] at e1;exact ⟨o1,e1,q3.push e2⟩
  ·obtain ⟨s1,s2⟩:=r1 j p' q;rw [hp] at s1;cases s1;obtain ⟨fo,q1,q2⟩:=hpre i o ho;obtain ⟨j2,p2,d1,d2,d3⟩:=ro _ q1;have:=hf1 _ _ _ d1 hd;subst this;rw [hp] at d2;cases d2;rcases hF.cover _ q1 with hg | hs
   ·exact absurd (.inl d1) (s2 _ hg)
   ·obtain ⟨o1,e1,e2⟩:=c2 _ q1 hs;exact ⟨o1,e1,d3.push (fun i j h => .inl h) hh e2⟩
 ·rcases p1 j p' hp' with ⟨x,q1,q2,q3⟩ | q
  ·rcases q2 with q2 | ⟨a1,a2,a3,a4⟩
   ·exact absurd (hlow _ _ q2).2 (by omega)
   ·obtain ⟨o1,e1,e2⟩:=c1 x q1;exact ⟨a3,bOf x.1,o1,a1,a4,e1,q3.push e2⟩
  ·have:=(r1 j p' q).1;rw [hn] at this;cases this
 ·rw [p2 j fun x hx hE=>?_,r2 j fun x hx hE=>?_]
  ·obtain ⟨fo,hfo⟩:=hF.ae0 x hx;exact hn (hin x fo hfo j hE (hpm _ hfo))
  ·rcases hF.aei x hx with hm | ⟨fo,hfo⟩
   ·rcases hE with hE | ⟨a1,a2,a3,a4⟩
    ·have:=(hlow _ _ hE).1;have:x.1<F.m:=this;omega
    ·omega
   ·exact hn (hin x.1 fo hfo j hE (hpm (x.1,fo) hfo))
noncomputable def kF (ng:Nat) (Fs:List Fact):List V→Tr Obj→B→FR→FR:=
 List.rec (motive:=fun _=>List V→Tr Obj→B→FR→FR) (fun _ _ _ e=>e) (fun F _ ih args t nx e=>yj ng F args t nx (ih args t nx e)) Fs
theorem wR {f:Nat}:∀ {Fs:List Fact},(∀ F∈Fs,bD P T w0 ng f F)→∀ {args:List V} {t:Tr Obj} {nx:B} {e:FR} {v:V} {t':Tr Obj} {nx':B},kF ng Fs args t nx e = .ret v t' nx'→e = .ret v t' nx'∨pU P T w0 ng f args t nx v t' nx'
 | [],_,_,_,_,_,_,_,_,h => .inl h
 | F::Fs,hF,args,t,nx,e,v,t',nx',h=>by
   rcases (hF F List.mem_cons_self).met (show yj ng F args t nx (kF ng Fs args t nx e)=_ from h) with h | h
   ·exact wR (fun F h=>hF F (List.mem_cons_of_mem _ h)) h
   ·exact .inr h
noncomputable def aks (F:Fact) (r:FR):Bool:=FR.rec (motive:=fun _=>Bool) (fun _=>false) (fun v t nx=>
 and (eqX 4 F.v v) (and (Nat.beq F.n nx.n) (and (List.all F.post fun x=>inO x.2 ((bOf x.1).get t)) (List.all F.pre fun x=>or (jX x.1 F.gone) (inO x.2 ((bOf x.1).get t)))))) r
noncomputable def bZ (T:Nat→TE) (FF:Nat→Option FC) (ng N n f:Nat) (F:Fact):Bool:=
 and (and (Nat.ble ng F.m) (Nat.ble F.m F.n)) (and (and (List.all F.pre fun x=>or (jX x.1 F.gone) (jX x.1 F.same)) (and (List.all F.gone fun i=>and (jX i (F.pre.map (·.1))) (not (jX i F.same))) (List.all F.post fun x=>or (Nat.ble F.m x.1) (jX x.1 (F.pre.map (·.1))))))
  (Qh F.pre .lf fun t=>aks F (qV T FF ng N n f F.args t ⟨F.m⟩)))
theorem Tz {a b:Bool} (h:or a b=true):a=true∨b=true:=(TA a b).1 h
theorem U7 (hT:TOK P T) {FF:Nat→Option FC} (hF:dY P T w0 ng FF) {N n f:Nat} (hb:∃ fn,P.funcs[f]?=some fn∧fn.body.isNone=false) {F:Fact} (h:bZ T FF ng N n f F=true):bD P T w0 ng f F:=by
 obtain ⟨h1,h2⟩:=aB h;obtain ⟨h3,h4⟩:=aB h1;obtain ⟨h5,h6⟩:=aB h2;obtain ⟨h7,h8⟩:=aB h5;obtain ⟨h9,h10⟩:=aB h8;rw [tK] at h6;have hmem:∀ i,jX i (F.pre.map (·.1))=true→∃ fo,(i,fo)∈F.pre:=fun i hi=>by
  obtain ⟨x,hx,hxi⟩:=List.mem_map.1 (fF.1 hi);exact ⟨x.2,by rw [← hxi];exact hx⟩
 refine ⟨aY.1 h3,aY.1 h4,fun x hx=>(Tz (List.all_eq_true.1 h7 x hx)).imp fF.1 fF.1,fun i hi=>hmem i (aB (List.all_eq_true.1 h9 i hi)).1,fun x hx=>(Tz (List.all_eq_true.1 h10 x hx)).imp aY.1 (hmem x.1),?_⟩;generalize hr:qV T FF ng N n f F.args (eY F.pre .lf) ⟨F.m⟩=r at h6;cases r with
 | bad k=>cases h6
 | ret v t nx=>
   obtain ⟨k1,k2⟩:=aB (show and (eqX 4 F.v v) (and (Nat.beq F.n nx.n) (and (List.all F.post fun x=>inO x.2 ((bOf x.1).get t)) (List.all F.pre fun x=>or (jX x.1 F.gone) (inO x.2 ((bOf x.1).get t)))))=true from h6);obtain ⟨k3,k4⟩:=aB k2;obtain ⟨k5,k6⟩:=aB k4;have e1:=Ac 4 _ _ k1;have e2:nx=⟨F.n⟩:=B.eG (show nx.n=F.n from (beq_iff.1 k3).symm);have hc:pU P T w0 ng f F.args (eY F.pre .lf) ⟨F.m⟩ v t nx:=by
    rcases uK hT hF N n f _ _ _ _ _ _ hr with h | ⟨_,_,⟨fn,q1,q2⟩,_⟩
    ·exact h
    ·obtain ⟨fn',p1,p2⟩:=hb;rw [q1] at p1;cases p1;rw [q2] at p2;cases p2
   rw [← e1,e2] at hc;refine ⟨t,hc,fun x hx=>zL (List.all_eq_true.1 k5 x hx),fun x hx hs=>?_⟩;rcases Tz (List.all_eq_true.1 k6 x hx) with h | h
   ·have:=(aB (List.all_eq_true.1 h9 x.1 (fF.1 h))).2;rw [Bool.not_eq_true',← Bool.not_eq_true] at this;exact absurd (fF.2 hs) this
   ·exact zL h
end
abbrev Pre:=List V→Tr Obj→B→FR→FR
def Ea (P:Program) (T:Nat→TE) (w0:World) (ng f:Nat) (pre:Pre):Prop:=∀ args t nx e v t' nx',pre args t nx e = .ret v t' nx'→Comes P T w0 ng f args t nx v t' nx'∨e = .ret v t' nx'
noncomputable def a2 {R:Type} (l:List V):(V→V→R)→R→R:=match l with | [a,b]=>fun K _=>K a b | _=>fun _ e=>e
theorem adU {R:Type} {l:List V} {K:V→V→R} {e r:R} (h:a2 l K e=r) (he:e≠r):∃ a b,l=[a,b]∧K a b=r:=by
 match l,h with
 | [a,b],h=>exact ⟨a,b,rfl,h⟩
 | [],h=>exact absurd h he
 | [_],h=>exact absurd h he
 | _::_::_::_,h=>exact absurd h he
noncomputable def jc (l n l' n':Nat):Int:=match strLt l n l' n' with | true=>-1 | false=>match strEq l n l' n' with | true=>0 | false=>1
noncomputable def J5:Pre:=fun args t nx _=>a2 args (fun a b=>jo a (fun l n=>jo b (fun l' n'=>kE (jc l n l' n') fun c => .ret (.int .i64 c) t nx) (.bad 201)) (.bad 201)) (.bad 201)
theorem og:∀ a b:List UInt8,Lib.compareBytes a b=if Op.bytesLess a b=true then -1 else if a=b then 0 else 1
 | [],[]=>by simp [Lib.compareBytes,Op.bytesLess]
 | [],_::_=>by simp [Lib.compareBytes,Op.bytesLess]
 | _::_,[]=>by simp [Lib.compareBytes,Op.bytesLess]
 | x::xs,y::ys=>by
   have ih:=og xs ys;unfold Lib.compareBytes Op.bytesLess;by_cases h1:x<y
   ·simp [h1]
   ·by_cases h2:y<x
    ·have:x≠y:=fun e=>by subst e;exact h1 h2
     simp [h1,h2,this]
    ·have e:x=y:=by
      have h3:=UInt8.not_lt.1 h1;have h4:=UInt8.not_lt.1 h2;exact UInt8.le_antisymm h4 h3
     subst e;simp only [UInt8.lt_irrefl,if_false];rw [ih];simp
section
variable {P:Program} {T:Nat→TE} {w0:World} {ng:Nat}
theorem Cc {f:Nat} {fn:Func} (hf:P.funcs[f]?=some fn) (hname:(fn.name == "runtime.NumGoroutine")=false) (hb:fn.body.isNone=true) (hn:Extern.findNext fn=none) (he:Extern.find fn=some Extern.BytealgCompare.compare):Ea P T w0 ng f J5:=by
 intro args t nx e v t' nx' h;have hbad:∀ n,FR.bad n ≠ .ret v t' nx':=fun n h=>by cases h
 obtain ⟨a,b,rfl,h1⟩:=adU (show a2 args _ _=_ from h) (hbad _);obtain ⟨l,n,rfl,h2⟩:=fJ h1 (hbad _);obtain ⟨l',n',rfl,h3⟩:=fJ h2 (hbad _);rw [fM] at h3;cases h3;refine .inl (.inr ⟨rfl,rfl,⟨fn,hf,hb⟩,fun g hp w vs g1 g2 g3=>?_⟩);obtain ⟨x,vs1,rfl,hx,g3⟩:=g3.inv;obtain ⟨y,vs2,rfl,hy,g3⟩:=g3.inv;have:=g3.jH;subst this;cases hx with
 | str s hs=>
 cases hy with
 | str s' hs'=>
 refine ⟨_,by rw [run_callFunc_extern hf hname hb hn he];rw [Lib.run_compareString];rfl,?_⟩;have:jc s.length (aU s) s'.length (aU s')=Lib.compareBytes s s':=by
  rw [og];unfold jc;rw [lZ,sD];cases h1:Op.bytesLess s s' with
  | true=>simp
  | false=>
    by_cases h2:s=s'
    ·simp [h2]
    ·have h3:(s==s')=false:=(by simpa using h2);simp [h2,h3]
 rw [this];exact .int _ _
end
def YF (nt:Nat):List Oper→Bool
 | []=>true
 | o::os=>and (match o.dst with | some x=>Nat.blt x nt | none=>true) (YF nt os)
theorem FV {nt:Nat}:∀ {os:List Oper},YF nt os=true→∀ o∈os,∀ x,o.dst=some x→x<nt
 | [],_,o,h=>by simp at h
 | p::os,h,o,ho=>by
   obtain ⟨h1,h2⟩:=aB h;rcases List.mem_cons.1 ho with rfl | ho
   ·intro x hx;rw [hx] at h1;exact aN.1 h1
   ·exact FV h2 o ho
def drB (d:Bool) (ops:List Oper) (l:List DI):Bool:=match d with | true=>Ve ops l | false=>true
def oh (ann:Nat→List DI) (nt:Nat):Code→Bool
 | .region id ops d=>and (YF nt ops.toList) (drB d ops.toList (ann id))
 | .seq a b=>and (oh ann nt a) (oh ann nt b)
 | .cond _ a b=>and (oh ann nt a) (oh ann nt b)
 | .block _ c=>oh ann nt c
 | .loop c=>oh ann nt c
 | _=>true
section
variable {P:Program} {T:Nat→TE} {w0:World} {ng:Nat}
theorem Wj (hT:TOK P T) (hm:P.follows .mixedOrders=true) {ann:Nat→List DI} {nt:Nat} (c:Code):oh ann nt c=true→nV P T w0 ng nt ann c:=by
 induction c with
 | region id ops d=>
   intro h;obtain ⟨h1,h2⟩:=aB (show and (YF nt ops.toList) (drB d ops.toList (ann id))=true from h);refine ⟨FV h1,fun hd=>?_⟩;subst hd;exact Vd hT hm (FV h1) h2
 | seq a b iha ihb=>
   intro h;obtain ⟨h1,h2⟩:=aB (show and (oh ann nt a) (oh ann nt b)=true from h);exact ⟨iha h1,ihb h2⟩
 | cond x a b iha ihb=>
   intro h;obtain ⟨h1,h2⟩:=aB (show and (oh ann nt a) (oh ann nt b)=true from h);exact ⟨iha h1,ihb h2⟩
 | block _ c ih=>exact fun h=>ih h
 | loop c ih=>exact fun h=>ih h
 | _=>exact fun _=>trivial
def okB (fn:Func) (ann:Nat→List DI):Bool:=and (not (fn.name == "runtime.NumGoroutine")) (match fn.body with | some c=>oh ann fn.ntmps c | none=>false)
theorem ak (hT:TOK P T) (hm:P.follows .mixedOrders=true) {f:Nat} {fn:Func} {ann:Nat→List DI} (h1:P.funcs[f]?=some fn) (h2:okB fn ann=true):au P T w0 ng f (aF fn ann):=by
 obtain ⟨h3,h4⟩:=aB h2;cases hb:fn.body with
 | none=>rw [hb] at h4;cases h4
 | some c=>
   rw [hb] at h4;refine ⟨fn,h1,by simpa using h3,?_,rfl,rfl,?_⟩
   ·simp only [aF,hb]
   ·simp only [aF,hb];exact Wj hT hm c h4
def fD (P:Program) (T:Nat→TE) (w0:World) (ng:Nat) (f:Nat) (fe:FE):Prop:=
 ∀ args t nx e v t' nx',fe.pre args t nx e = .ret v t' nx'→Comes P T w0 ng f args t nx v t' nx'∨(e = .ret v t' nx'∧au P T w0 ng f fe)
theorem ah {f:Nat} {fn:Func} {ann:Nat→List DI} (h:au P T w0 ng f (aF fn ann)):fD P T w0 ng f (aF fn ann):=fun _ _ _ _ _ _ _ he => .inr ⟨he,h⟩
theorem wV {f:Nat} {fe:FE} {Fs:List Fact} (h:∀ F∈Fs,bD P T w0 ng f F) (hb:au P T w0 ng f fe):fD P T w0 ng f { fe with pre:=kF ng Fs }:=fun _ _ _ _ _ _ _ he=>by
 rcases wR h he with h1 | h1
 ·exact .inr ⟨h1,hb⟩
 ·exact .inl (.inl h1)
theorem iG {f:Nat} {fe:FE} {pre:Pre} (hp:Ea P T w0 ng f pre) (hf:∀ args t nx e,pre args t nx e=pre args t nx (.bad 0)):fD P T w0 ng f { fe with pre:=pre }:=fun args t nx e v t' nx' he=>by
 have he:pre args t nx e = .ret v t' nx':=he;rw [hf] at he;rcases hp _ _ _ _ _ _ _ he with h | h
 ·exact .inl h
 ·cases h
def FT.All (p:Nat→FE→Prop):FT→Prop
 | .nil=>True
 | .leaf f e=>p f e
 | .node _ l r=>l.All p∧r.All p
theorem FT.AB {p:Nat→FE→Prop}:∀ {t:FT},t.All p→∀ f fe,t.look f=some fe→p f fe
 | .nil,_,f,fe,h=>by cases h
 | .leaf g e,ha,f,fe,h=>by
   have h:(match Nat.beq g f with | true=>some e | false=>none)=some fe:=h;split at h
   ·rename_i hg;cases h;rw [← beq_iff.1 hg];exact ha
   ·cases h
 | .node m l r,ha,f,fe,h=>by
   have h:(match Nat.blt f m with | true=>l.look f | false=>r.look f)=some fe:=h;split at h
   ·exact FT.AB ha.1 f fe h
   ·exact FT.AB ha.2 f fe h
theorem FT.fok {t:FT} (h:t.All (fD P T w0 ng)):FOK P T w0 ng t.look:=fun f fe hf=>FT.AB h f fe hf
end
noncomputable def ovl (T:Nat→TE) (ng k:Nat) (fe:FE) (Fs:List Fact) (FF:Nat→Option FC):Nat→Option FC:=fun f=>match Nat.beq f k with
 | true=>some (QH T ng { fe with pre:=kF ng Fs })
 | false=>FF f
section
variable {P:Program} {T:Nat→TE} {w0:World} {ng:Nat}
theorem dD {k:Nat} {fe:FE} {Fs:List Fact} {FF:Nat→Option FC} (h:dY P T w0 ng FF) (hf:∀ F∈Fs,bD P T w0 ng k F) (hb:au P T w0 ng k fe):dY P T w0 ng (ovl T ng k fe Fs FF):=fun f fc hfc=>by
 have hfc:(match Nat.beq f k with | true=>some (QH T ng { fe with pre:=kF ng Fs }) | false=>FF f)=some fc:=hfc;split at hfc
 ·rename_i hk;cases hfc;rw [beq_iff.1 hk];exact ⟨_,rfl,wV hf hb⟩
 ·exact h f fc hfc
theorem qm {f:Nat}:∀ F∈([]:List Fact),bD P T w0 ng f F:=fun _ h=>by cases h
theorem aK {f:Nat} {F:Fact} {Fs:List Fact} (h:bD P T w0 ng f F) (hs:∀ F∈Fs,bD P T w0 ng f F):∀ G∈F::Fs,bD P T w0 ng f G:=fun G hG=>by
 rcases List.mem_cons.1 hG with rfl | hG
 ·exact h
 ·exact hs G hG
theorem Oh (hT:TOK P T) {FF:Nat→Option FC} (hF:dY P T w0 ng FF) {f:Nat} {fe:FE} (hb:au P T w0 ng f fe) {N n:Nat} {F:Fact} (h:bZ T FF ng N n f F=true):bD P T w0 ng f F:=by
 obtain ⟨fn,h1,_,h3,_⟩:=hb;exact U7 hT hF ⟨fn,h1,by rw [h3];rfl⟩ h
end
def i6 (n:Nat):V := .int .i64 (.ofNat n)
def n6 (n:Nat):V := .int .i64 (.negSucc n)
def sn (i sz len:Nat):V := .sl ⟨i⟩ sz 0 len none
def sc (i sz off len c:Nat):V := .sl ⟨i⟩ sz off len (some c)
def pt (i:Nat):V := .ptr ⟨i⟩ 0
def bt:V := .bool true
def bf:V := .bool false
def bk (sz:Nat) (cs:List V):FO := .blk false sz cs
def pu1 (k:Nat) (x cs:List V):List V:=cs.take k++(x++cs.drop k)
noncomputable def Nw (tbl:List (Nat×List Fact)):Nat→List Fact:=List.rec (motive:=fun _=>Nat→List Fact) (fun _=>[]) (fun x _ ih n=>aJ (Nat.beq x.1 n) x.2 (ih n)) tbl
noncomputable def PW (tbl:List (Nat×List Fact)) (args:List V):List Fact:=match args with
 | []=>[]
 | x::_=>asAgg x (fun cs=>match cs with | []=>[] | c::_=>jo c (fun _ n=>Nw tbl n) []) []
theorem Qn {tbl:List (Nat×List Fact)} {n:Nat} {F:Fact} (h:F∈Nw tbl n):∃ x∈tbl,F∈x.2:=by
 induction tbl with
 | nil=>exact absurd h (by simp [Nw])
 | cons x tbl ih=>
   have h:F∈aJ (Nat.beq x.1 n) x.2 (Nw tbl n):=h;rw [aQ] at h;split at h
   ·exact ⟨x,List.mem_cons_self,h⟩
   ·obtain ⟨y,hy,hF⟩:=ih h;exact ⟨y,List.mem_cons_of_mem _ hy,hF⟩
theorem RD {tbl:List (Nat×List Fact)} {args:List V} {F:Fact} (h:F∈PW tbl args):∃ x∈tbl,F∈x.2:=by
 generalize hL:PW tbl args=L at h;have hne:[]≠L:=by rintro rfl;cases h
 unfold PW at hL;cases args with
 | nil=>exact absurd hL hne
 | cons x _=>
   obtain ⟨cs,rfl,k1⟩:=ni hL hne;cases cs with
   | nil=>exact absurd k1 hne
   | cons c _=>
     obtain ⟨l,n,rfl,k2⟩:=fJ k1 hne;rw [← k2] at h;exact Qn h
noncomputable def aha (T:Nat→TE) (ng k:Nat) (fe:FE) (tbl:List (Nat×List Fact)) (FF:Nat→Option FC):Nat→Option FC:=fun f=>match Nat.beq f k with
 | true=>some (QH T ng { fe with pre:=fun args t nx e=>kF ng (PW tbl args) args t nx e })
 | false=>FF f
section
variable {P:Program} {T:Nat→TE} {w0:World} {ng:Nat}
theorem Xz {k:Nat} {fe:FE} {tbl:List (Nat×List Fact)} {FF:Nat→Option FC} (h:dY P T w0 ng FF) (hf:∀ x∈tbl,∀ F∈x.2,bD P T w0 ng k F) (hb:au P T w0 ng k fe):dY P T w0 ng (aha T ng k fe tbl FF):=fun f fc hfc=>by
 have hfc:(match Nat.beq f k with | true=>some (QH T ng { fe with pre:=fun args t nx e=>kF ng (PW tbl args) args t nx e }) | false=>FF f)=some fc:=hfc;split at hfc
 ·rename_i hk;cases hfc;rw [beq_iff.1 hk];refine ⟨_,rfl,fun args t nx e v t' nx' he=>?_⟩;exact wV (ng:=ng) (Fs:=PW tbl args) (fun F hF=>by obtain ⟨x,hx,hF⟩:=RD hF;exact hf x hx F hF) hb args t nx e v t' nx' he
 ·exact h f fc hfc
theorem Lr (hT:TOK P T) {FF:Nat→Option FC} (hF:dY P T w0 ng FF) {f:Nat} {fe:FE} (hb:au P T w0 ng f fe) {N n:Nat} {tbl:List (Nat×List Fact)} (h:tbl.all (fun x=>x.2.all (bZ T FF ng N n f))=true):∀ x∈tbl,∀ F∈x.2,bD P T w0 ng f F:=
 fun x hx F hm=>Oh hT hF hb (List.all_eq_true.1 (List.all_eq_true.1 h x hx) F hm)
theorem Xj {f:Nat} {a b:List (Nat×List Fact)} (h:∀ x∈a,∀ F∈x.2,bD P T w0 ng f F) (k:∀ x∈b,∀ F∈x.2,bD P T w0 ng f F):∀ x∈a++b,∀ F∈x.2,bD P T w0 ng f F:=fun x hx=>
 (List.mem_append.1 hx).elim (h x) (k x)
theorem gJ {f:Nat} {a b:List Fact} (h:∀ F∈a,bD P T w0 ng f F) (k:∀ F∈b,bD P T w0 ng f F):∀ F∈a++b,bD P T w0 ng f F:=fun F hF=>
 (List.mem_append.1 hF).elim (h F) (k F)
theorem aP (hT:TOK P T) {FF:Nat→Option FC} (hF:dY P T w0 ng FF) {f:Nat} {fe:FE} (hb:au P T w0 ng f fe) {N n:Nat} {Fs:List Fact} (h:Fs.all (bZ T FF ng N n f)=true):∀ F∈Fs,bD P T w0 ng f F:=
 fun F hm=>Oh hT hF hb (List.all_eq_true.1 h F hm)
end
end Go.Sim
