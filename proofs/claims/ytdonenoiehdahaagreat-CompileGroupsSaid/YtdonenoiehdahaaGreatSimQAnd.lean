/- Sim: code made ready for the kernel does what the evaluator does. -/
import Derived.Test.YtdonenoiehdahaaGreatSimN8And
set_option linter.all false
namespace Go.Sim
open Go Go.RowKit
open Go.Abs (TE TK SK TOK TFacts)
section
variable {T:Nat→TE} {ng:Nat}
theorem iH {h:HC} {op:Op} (H:∀ call env t nx K,h.run call env t nx K=opH op ng T call ((aT op).map (opV ng env)) t nx K):h.For T ng op:=fun call env t nx K=>by
 rw [nD];exact H call env t nx K
theorem dV (op:Op):(slow T ng op).For T ng op:=fun _ _ _ _ _=>rfl
theorem Jh {op:Op} {x:Operand} (h1:aT op=[x]) (h2:opH op ng=Tt):(Qy (bD ng x)).For T ng op:=iH fun call env t nx K=>by
 rw [h1,h2];show K ((bD ng x).run env) t nx=K (opV ng env x) t nx;rw [bT]
theorem U1 {k:TK} (h1:k ≠ .none) (h2:∀ fs,k ≠ .agg fs) (h3:∀ n e,k ≠ .arr n e) (n:Nat) (cs:Tr V) (off:Nat) (K:V→R) (e:R) :
  NU k n cs off K e=abX ((lnT V off).get cs) K e:=by
 rw [Za];cases k with
 | none=>exact absurd rfl h1
 | agg fs=>exact absurd rfl (h2 fs)
 | arr n e=>exact absurd rfl (h3 n e)
 | _=>rfl
theorem U9 (ty:Nat) (x:Operand):(Qz T ng ty x (bD ng x)).For T ng (.load ty x):=by
 unfold Qz;split
 ·exact dV _
 ·rename_i fs hk;refine iH fun call env t nx K=>?_
  show Hz _ _ _=jX (opV ng env x) (fun id off=>mF (id.get t) (fun _ _ _ cs=>NU (T ty).k (T ty).size cs off (fun v=>K v t nx) (.bad 2)) (.bad 3)) (.bad 4);rw [bT,Dh,hk];simp only [LW];rfl
 ·exact dV _
 ·rename_i h1 h2 h3;refine iH fun call env t nx K=>?_
  show Hz _ _ _=jX (opV ng env x) (fun id off=>mF (id.get t) (fun _ _ _ cs=>NU (T ty).k (T ty).size cs off (fun v=>K v t nx) (.bad 2)) (.bad 3)) (.bad 4);rw [bT,Dh];simp only [LW,U1 (fun e=>h1 e) (fun fs e=>h2 fs e) (fun n e' e=>h3 n e' e)]
theorem Zo (a b:Nat) (K:Nat→R):ab8 a b K=K (Nat.max a b):=by
 unfold ab8;rw [qE,aQ];split
 ·rename_i h;have:=aZ.1 h;rw [show Nat.max a b=b by show max a b=b;omega]
 ·rename_i h;have:¬ a≤b:=fun h'=>h (aZ.2 h');rw [show Nat.max a b=a by show max a b=a;omega]
theorem Y9 (id:B) (off:Nat) (v:V) (hv:one v=true) (t:Tr Obj) (K:Tr Obj→R) (e:R):WA id off v t K e=sD id off [v] t K e:=by
 unfold WA sD;rw [LW];congr 1;funext ro sz hi cs;rw [qE,Jy,qE,aC];have:List.all [v] one=true:=by simp [hv]
 rw [this];have:∀ b,and b true=b:=fun b=>by cases b<;>rfl
 rw [this];congr 1;rw [aQ,aQ];simp only [Zo,aC];rfl
theorem WH (v:V) (K:V→R) (e:R):(Sr v K e=e)∨(one v=true∧cellsOf v=[v]∧Sr v K e=K v):=by
 cases v<;>first | exact .inl rfl | exact .inr ⟨rfl,rfl,rfl⟩
theorem Qx (ty:Nat) (x y:Operand):(Le T ng ty x y (bD ng x) (bD ng y)).For T ng (.store ty x y):=by
 unfold Le;split
 ·rename_i hk;refine iH fun call env t nx K=>?_
  show Sr ((bD ng y).run env) (fun v=>Hz ((bD ng x).run env) (fun id off=>WA id off v t (fun t'=>K .any t' nx) (.bad 5)) (.bad 7)) ((slow T ng (.store ty x y)).run call env t nx K) =
   jX (opV ng env x) (fun id off=>aJ (and (Abs.TE.known (T ty)) (Nat.beq (T ty).size (cellsOf (opV ng env y)).length)) (sD id off (cellsOf (opV ng env y)) t (fun t'=>K .any t' nx) (.bad 5)) (.bad 6)) (.bad 7)
  rw [bT,bT];rcases WH (opV ng env y) (fun v=>Hz (opV ng env x) (fun id off=>WA id off v t (fun t'=>K .any t' nx) (.bad 5)) (.bad 7)) ((slow T ng (.store ty x y)).run call env t nx K) with h | ⟨h1,h2,h3⟩
  ·rw [h];exact dV (.store ty x y) call env t nx K |>.trans (by rw [nD];rfl)
  ·rw [h3,Dh,h2];simp only [Y9 _ _ _ h1,List.length_singleton,hk,aQ,if_true]
 ·exact dV _
theorem abL (vs:List V):trS vs=ji vs .lf 0:=by unfold trS;rw [fE]
theorem ad4 (vs:List V):(trC vs).n=vs.length:=by unfold trC;cases vs<;>rfl
theorem abM (vs:List V):(trC vs).tr=ji vs .lf 0:=by
 unfold trC;cases vs with
 | nil=>rfl
 | cons v vs=>exact abL (v::vs)
theorem Zl (n:Nat) (cs:Tr V) (t:Tr Obj) (nx:B) (K:KV):ab6 n cs t nx K=qw n cs t nx fun t' nx'=>K (.ptr nx 0) t' nx':=rfl
theorem QA (ty:Nat):(Lj T ng ty).For T ng (.alloc ty):=by
 unfold Lj;split
 ·rename_i hk;refine iH fun call env t nx K=>?_
  show ab6 (trC (cellsOf (cV (T ty).zero))).n (trC (cellsOf (cV (T ty).zero))).tr t nx K=aJ (Abs.TE.known (T ty)) (mkVar (cellsOf (cV (T ty).zero)) t nx K) (.bad 102);obtain ⟨h1,h2⟩:=aB hk;unfold mkVar;rw [h1,h2,aQ,if_pos rfl,aQ,if_pos rfl,ad4,abM,Zl,fE,aC]
 ·exact dV _
theorem ZH (ty f:Nat) (x:Operand):(acC T ng ty f x (bD ng x)).For T ng (.fieldAddr ty x f):=by
 unfold acC;split
 ·rename_i fo fsz fb hk;split
  ·rename_i hz;refine iH fun call env t nx K=>?_
   show Hz ((bD ng x).run env) (fun id off=>fN (Nat.add off fo) fun o=>K (.ptr id o) t nx) (.bad 8) =
    ZO (uO (T ty).k f) (fun fo fsz _=>aJ (Nat.blt 0 fsz) (jX (opV ng env x) (fun id off=>aU (Nat.add off fo) fun o=>K (.ptr id o) t nx) (.bad 8)) (.bad 8)) (.bad 8)
   rw [hk,bT,Dh];show _=aJ (Nat.blt 0 fsz) _ _;rw [hz,aQ,if_pos rfl];simp only [Jy,aC]
  ·exact dV _
 ·exact dV _
theorem NM (i:Int) (len:Nat) (K:Nat→R) (e:R):Ak i (fun m=>aJ (Nat.blt m len) (K m) e) e=inB i len K e:=by cases i<;>rfl
theorem Oc (v:V) (K:Int→R) (e:R):Je v K e=asInt v (fun _ i=>K i) e:=by unfold Je;rw [Zx]
theorem ZG (ty:Nat) (x i:Operand):(acB T ng ty x i (bD ng x) (bD ng i)).For T ng (.indexAddr ty x i):=by
 unfold acB;split
 ·rename_i e hk;split
  ·rename_i hz;refine iH fun call env t nx K=>?_
   show slR ((bD ng x).run env) (fun id sz off len _=>Je ((bD ng i).run env) (fun i=>mQ (Nat.beq sz (T e).size) (Ak i (fun m=>mQ (Nat.blt m len) (fN (Nat.add off (Nat.mul m sz)) fun o=>K (.ptr id o) t nx) (.bad 11)) (.bad 11)) (.bad 12)) (.bad 13)) (.bad 13) =
    Qn (T ty).k T (opV ng env x) (opV ng env i) t nx K
   rw [hk,bT,bT,abS];show _=xZ (opV ng env x) (fun id sz off len _=>asInt (opV ng env i) (fun _ i=>aJ (and (Abs.TE.known (T e)) (Nat.beq sz (T e).size)) (inB i len (fun m=>aU (Nat.add off (Nat.mul m sz)) fun o=>K (.ptr id o) t nx) (.bad 11)) (.bad 12)) (.bad 13)) (.bad 13);have ht:∀ b,and true b=b:=fun b=>by cases b<;>rfl
   simp only [Oc,qE,NM,Jy,aC,hz,ht]
  ·exact dV _
 ·exact dV _
theorem Qw (ty:Nat) (x i:Operand):(Ld T ng ty x i (bD ng x) (bD ng i)).For T ng (.index ty x i):=by
 unfold Ld;split
 ·rename_i hk;refine iH fun call env t nx K=>?_
  show Ko ((bD ng x).run env) (fun l n=>Je ((bD ng i).run env) (fun i=>Ak i (fun m=>mQ (Nat.blt m l) (fN (Nat.mod (Nat.shiftRight n (Nat.mul 8 (Nat.sub (Nat.sub l 1) m))) 256) fun c=>K (.int .u8 (.ofNat c)) t nx) (.bad 17)) (.bad 17)) (.bad 18)) (.bad 18) =
   Xl (T ty).k T (opV ng env x) (opV ng env i) t nx K
  rw [hk,bT,bT,YV];show _=gB (opV ng env x) (fun l n=>asInt (opV ng env i) (fun _ i=>inB i l (fun m=>aU (Nat.mod (Nat.shiftRight n (Nat.mul 8 (Nat.sub (Nat.sub l 1) m))) 256) fun c=>K (.int .u8 (.ofNat c)) t nx) (.bad 17)) (.bad 18)) (.bad 18);simp only [Oc,qE,NM,Jy,aC]
 ·exact dV _
theorem Tn (v:V) (K:Int→R) (e:R):Qs v K e=e∨∃ n,v = .int .i64 n∧Qs v K e=K n:=by
 cases v with
 | int k n=>cases k<;>first | exact .inl rfl | exact .inr ⟨n,rfl,rfl⟩
 | _=>exact .inl rfl
theorem Uo (op:BinOp) (ty:Nat) (x y:Operand) (z:TypeId):(adX T ng op ty (Qr op) (bD ng x) (bD ng y)).For T ng (.binOp op ty x y z):=iH fun call env t nx K=>by
 show Qs ((bD ng x).run env) (fun m=>Qs ((bD ng y).run env) (fun n=>(Qr op).run m n (fun v=>K v t nx) (mW ((bD ng x).run env) (T ty) (opI op) (opS op) (opE op) ((bD ng y).run env) fun v=>K v t nx))
   (mW ((bD ng x).run env) (T ty) (opI op) (opS op) (opE op) ((bD ng y).run env) fun v=>K v t nx)) (mW ((bD ng x).run env) (T ty) (opI op) (opS op) (opE op) ((bD ng y).run env) fun v=>K v t nx) =
  mW (opV ng env x) (T ty) (opI op) (opS op) (opE op) (opV ng env y) (fun v=>K v t nx)
 rw [bT,bT];generalize opV ng env x=a;generalize opV ng env y=b;rcases Tn a (fun m=>Qs b (fun n=>(Qr op).run m n (fun v=>K v t nx) (mW a (T ty) (opI op) (opS op) (opE op) b fun v=>K v t nx)) (mW a (T ty) (opI op) (opS op) (opE op) b fun v=>K v t nx)) (mW a (T ty) (opI op) (opS op) (opE op) b fun v=>K v t nx) with h | ⟨m,rfl,h⟩
 ·exact h
 ·rw [h];rcases Tn b (fun n=>(Qr op).run m n (fun v=>K v t nx) (mW (.int .i64 m) (T ty) (opI op) (opS op) (opE op) b fun v=>K v t nx)) (mW (.int .i64 m) (T ty) (opI op) (opS op) (opE op) b fun v=>K v t nx) with h | ⟨n,rfl,h⟩
  ·exact h
  ·rw [h];exact ZE op m n fun v=>K v t nx
theorem X8 (te:TE) (a b:V) (K:V→R):eqStr a b K (mW a te (opI .eql) (opS .eql) (opE .eql) b K)=mW a te (opI .eql) (opS .eql) (opE .eql) b K:=by
 cases a<;>try rfl
 cases b<;>try rfl
 rename_i l n l' n';show mQ (Nat.beq l l') (bR (Nat.beq n n') K) (K (.bool false))=dA (and (Nat.beq l l') (Nat.beq n n')) fun x=>K (.bool x)
 rw [aV,JM];cases Nat.beq l l'<;>rfl
theorem WS (te:TE) (a b:V) (K:V→R):WT a b K (mW a te (opI .neq) (opS .neq) (opE .neq) b K)=mW a te (opI .neq) (opS .neq) (opE .neq) b K:=by
 cases a<;>try rfl
 cases b<;>try rfl
 rename_i l n l' n';show mQ (Nat.beq l l') (bnR (Nat.beq n n') K) (K (.bool true))=dA (not (and (Nat.beq l l') (Nat.beq n n'))) fun x=>K (.bool x)
 rw [aV,Yy];cases Nat.beq l l'<;>rfl
theorem XB (op:BinOp) (ty:Nat) (x y:Operand) (z:TypeId):(XC T ng op ty (bD ng x) (bD ng y)).For T ng (.binOp op ty x y z):=by
 unfold XC;split
 ·split
  ·refine iH fun call env t nx K=>?_
   show eqStr ((bD ng x).run env) ((bD ng y).run env) (fun v=>K v t nx) (mW ((bD ng x).run env) (T ty) (opI .eql) (opS .eql) (opE .eql) ((bD ng y).run env) fun v=>K v t nx)=mW (opV ng env x) (T ty) (opI .eql) (opS .eql) (opE .eql) (opV ng env y) (fun v=>K v t nx);rw [bT,bT];exact X8 _ _ _ _
  ·refine iH fun call env t nx K=>?_
   show WT ((bD ng x).run env) ((bD ng y).run env) (fun v=>K v t nx) (mW ((bD ng x).run env) (T ty) (opI .neq) (opS .neq) (opE .neq) ((bD ng y).run env) fun v=>K v t nx)=mW (opV ng env x) (T ty) (opI .neq) (opS .neq) (opE .neq) (opV ng env y) (fun v=>K v t nx);rw [bT,bT];exact WS _ _ _ _
  ·exact Uo _ ty x y z
 ·exact Uo _ ty x y z
theorem SC:∀ (i:Nat) (l:List V) (K:V→R) (e:R),Zi i l K e=ku l[i]? K e
 | 0,[],_,_=>rfl
 | 0,_::_,_,_=>rfl
 | _+1,[],_,_=>rfl
 | i+1,v::l,K,e=>by
   show Zi i l K e=_;rw [SC i l];rfl
theorem Lh (i:Nat) (x:Operand):(Ji i (bD ng x)).For T ng (.extract x i):=iH fun call env t nx K=>by
 show abK ((bD ng x).run env) (fun vs=>Zi i vs (fun v=>K v t nx) (.bad 104)) (.bad 105)=G7 (opV ng env x) (fun vs=>ku vs[i]? (fun v=>K v t nx) (.bad 104)) (.bad 105);rw [bT,YS];simp only [SC]
theorem Nv (ng:Nat) (env:Tr V):∀ xs:List Operand,(IL ng xs).run env=xs.map (opV ng env)
 | []=>rfl
 | x::xs=>by
   show (bD ng x).run env::(IL ng xs).run env=_;rw [bT,Nv ng env xs];rfl
theorem acK (r:FR) (K:V→Tr Obj→B→R):frR r K=frK r .bad K:=by cases r<;>rfl
theorem Va {c:Call} {f:Nat} (h:c.callee = .value (.func f)):(XA f (IL ng c.args.toList)).For T ng (.call c):=iH fun call env t nx K=>by
 have e1:aT (.call c) = .func f::c.args.toList:=by simp only [aT,h]
 have e2:opH (.call c) ng=XM:=by simp only [opH,h]
 rw [e1,e2];show frR (call f ((IL ng c.args.toList).run env) t nx) K=frK (call f ([]++((c.args.toList.map (opV ng env))++[])) t nx) .bad K;rw [Nv,acK,List.nil_append,List.append_nil]
theorem Xy {c:Call} {x:Operand} {ty:Nat} (h:c.callee = .builtin .len) (hx:c.args.toList=[x]) (ht:c.argTypes.toList=[ty]):(Xz T ng (.call c) ty (bD ng x)).For T ng (.call c):=by
 have e1:aT (.call c)=[x]:=by
  have:aT (.call c)=c.args.toList:=by simp only [aT,h]
  rw [this,hx]
 have e2:opH (.call c) ng=hLen ty:=by
  have:opH (.call c) ng=opB .len c.args.toList c.argTypes.toList:=by simp only [opH,h]
  rw [this,hx,ht];rfl
 have sl:∀ call env t nx K,(slow T ng (.call c)).run call env t nx K=Xc (T ty).k (opV ng env x) t (fun n=>K (.int .i64 (.ofNat n)) t nx):=fun call env t nx K=>by
  rw [dV (.call c) call env t nx K,nD,e1,e2];rfl
 unfold Xz;split
 ·rename_i e hk;refine iH fun call env t nx K=>?_
  rw [e1,e2];show slR ((bD ng x).run env) (fun _ _ _ l _=>K (.int .i64 (.ofNat l)) t nx) ((slow T ng (.call c)).run call env t nx K)=Xc (T ty).k (opV ng env x) t (fun n=>K (.int .i64 (.ofNat n)) t nx);rw [bT,sl,hk];cases opV ng env x<;>rfl
 ·rename_i hk;refine iH fun call env t nx K=>?_
  rw [e1,e2];show Ko ((bD ng x).run env) (fun l _=>K (.int .i64 (.ofNat l)) t nx) ((slow T ng (.call c)).run call env t nx K)=Xc (T ty).k (opV ng env x) t (fun n=>K (.int .i64 (.ofNat n)) t nx);rw [bT,sl,hk];cases opV ng env x<;>rfl
 ·exact dV _
theorem Tq (op:Op):(Fq T ng op).For T ng op:=by
 unfold Fq;split
 ·exact Jh rfl rfl
 ·exact Jh rfl rfl
 ·exact QA _
 ·exact U9 _ _
 ·exact Qx _ _ _
 ·exact XB _ _ _ _ _
 ·exact ZH _ _ _
 ·exact ZG _ _ _
 ·exact Qw _ _ _
 ·exact Lh _ _
 ·split
  ·rename_i h1;exact Va h1
  ·rename_i h1 h2 h3;exact Xy h1 h2 h3
  ·exact dV _
 ·exact dV _
theorem RU (dst:Option Tmp) (env:Tr V) (v:V) (K:Tr V→R):(CU dst).run env v K=yH dst env v K:=by cases dst<;>rfl
theorem yP {α:Type}:∀ (j:Nat) (l:List α) (K:α→R) (e:R),jQ j l K e=ku l[j]? K e
 | 0,[],_,_=>rfl
 | 0,_::_,_,_=>rfl
 | _+1,[],_,_=>rfl
 | i+1,v::l,K,e=>by
   show jQ i l K e=_;rw [yP i l];rfl
theorem Zc (d:Tmp) (env:Tr V) (K:V→R):opK (.tmp d) ng env K=K ((bD ng (.tmp d)).run env):=by rw [bT,Ag]
theorem EJ {all:List Oper} {o:Oper} {h:HC} {h':H} (hh:∀ call env t nx K,h.run call env t nx K=Af (aT o.op) ng env fun vals=>h' T call vals t nx K) (call:Cl) (env:Tr V) (t:Tr Obj) (nx:B) (k:KE) :
  (BH ng all o h).run call env t nx k=stepG o.guard all o.dst h' (aT o.op) T call ng env t nx k:=by
 unfold BH;split
 ·rename_i hg;rw [hg];show h.run call env t nx (fun v t nx=>(CU o.dst).run env v fun env=>k env t nx)=Af (aT o.op) ng env fun vals=>h' T call vals t nx fun v t nx=>yH o.dst env v fun env=>k env t nx
  rw [hh];simp only [RU]
 ·rename_i j want hg;rw [hg]
  show _=jQ j all (fun oj=>ku oj.dst (fun d=>opK (.tmp d) ng env fun v=>
   asBool v (fun b=>aJ (CZ b want) (Af (aT o.op) ng env fun vals=>h' T call vals t nx fun v t nx=>yH o.dst env v fun env=>k env t nx) (yH o.dst env .undef fun env=>k env t nx))
    (uJ v (yH o.dst env .undef fun env=>k env t nx) (.bad 112))) (.bad 113)) (.bad 113)
  rw [yP];split
  ·rename_i oj hj;rw [hj]
   show _=ku oj.dst (fun d=>opK (.tmp d) ng env fun v=>
    asBool v (fun b=>aJ (CZ b want) (Af (aT o.op) ng env fun vals=>h' T call vals t nx fun v t nx=>yH o.dst env v fun env=>k env t nx) (yH o.dst env .undef fun env=>k env t nx))
     (uJ v (yH o.dst env .undef fun env=>k env t nx) (.bad 112))) (.bad 113)
   split
   ·rename_i d hd;rw [hd];have e:∀ k':Tmp→R,ku (some d) k' (R.bad 113)=k' d:=fun _=>rfl
    rw [e,Zc];show Ul ((bD ng (.tmp d)).run env) (fun b=>mQ (CZ b want) (h.run call env t nx fun v t nx=>(CU o.dst).run env v fun env=>k env t nx) ((CU o.dst).run env .undef fun env=>k env t nx))
     (uJ ((bD ng (.tmp d)).run env) ((CU o.dst).run env .undef fun env=>k env t nx) (.bad 112))=_
    rw [Yx,hh];simp only [RU,qE]
   ·rename_i hd;rw [hd];rfl
  ·rename_i hj;rw [hj];rfl
theorem WM (all:List Oper) (o:Oper):NC T ng all o=BH ng all o (Fq T ng o.op):=rfl
theorem KH (all:List Oper) (o:Oper) (call:Cl) (env:Tr V) (t:Tr Obj) (nx:B) (k:KE):(NC T ng all o).run call env t nx k=stepG o.guard all o.dst (opH o.op ng) (aT o.op) T call ng env t nx k:=by
 rw [WM];exact EJ (Tq o.op) call env t nx k
theorem RQ (all:List Oper):∀ (os:List Oper) (call:Cl) (env:Tr V) (t:Tr Obj) (nx:B) (k:KE),(Ws T ng all os).run call env t nx k=PY os all T call ng env t nx k
 | [],_,_,_,_,_=>rfl
 | o::os,call,env,t,nx,k=>by
   show (NC T ng all o).run call env t nx (fun env t nx=>(Ws T ng all os).run call env t nx k)=stepG o.guard all o.dst (opH o.op ng) (aT o.op) T call ng env t nx fun env t nx=>PY os all T call ng env t nx k
   rw [KH];simp only [RQ all os]
theorem acz (hs:List (Tr Obj×B)) (K:Tr Obj→B→R):hdR hs K=hdK hs fun t nx _=>K t nx:=by
 cases hs with
 | nil=>rfl
 | cons h hs=>rfl
theorem jK (all:List Oper):∀ (its:List DI) (call:Cl) (env:Tr V) (t:Tr Obj) (nx:B) (hs:List (Tr Obj×B)) (k:KE),(xU T ng all its).run call env t nx hs k=CS its all T call ng env t nx hs k
 | [],_,_,_,_,_,_=>rfl
 | .z j::its,call,env,t,nx,hs,k=>by
   show _=jQ j all (fun o=>stepG o.guard all o.dst (opH o.op ng) (aT o.op) T call ng env t nx fun env t nx=>CS its all T call ng env t nx hs k) (.bad 132);rw [yP];unfold xU;split
   ·rename_i o ho;rw [ho];show (NC T ng all o).run call env t nx (fun env t nx=>(xU T ng all its).run call env t nx hs k)=stepG o.guard all o.dst (opH o.op ng) (aT o.op) T call ng env t nx fun env t nx=>CS its all T call ng env t nx hs k
    rw [KH];simp only [jK all its]
   ·rename_i ho;rw [ho];rfl
 | .c j::its,call,env,t,nx,hs,k=>by
   show _=jQ j all (fun o=>stepG o.guard all o.dst (opH o.op ng) (aT o.op) T call ng env t nx fun env t nx=>CS its all T call ng env t nx ((t,nx)::hs) k) (.bad 132);rw [yP];unfold xU;split
   ·rename_i o ho;rw [ho];show (NC T ng all o).run call env t nx (fun env t nx=>(xU T ng all its).run call env t nx ((t,nx)::hs) k)=stepG o.guard all o.dst (opH o.op ng) (aT o.op) T call ng env t nx fun env t nx=>CS its all T call ng env t nx ((t,nx)::hs) k
    rw [KH];simp only [jK all its]
   ·rename_i ho;rw [ho];rfl
 | .q j back::its,call,env,t,nx,hs,k=>by
   show _=jQ j all (fun o=>stepG o.guard all o.dst (Cb back hs (opH o.op ng)) (aT o.op) T call ng env t nx fun env t nx=>CS its all T call ng env t nx hs k) (.bad 132);rw [yP];unfold xU;split
   ·rename_i o ho;rw [ho];show _=stepG o.guard all o.dst (Cb back hs (opH o.op ng)) (aT o.op) T call ng env t nx fun env t nx=>CS its all T call ng env t nx hs k
    split
    ·have h0:∀ call env t nx K,(acA (Fq T ng o.op) hs).run call env t nx K=Af (aT o.op) ng env fun vals=>Cb 0 hs (opH o.op ng) T call vals t nx K:=fun call env t nx K=>by
      show hdR hs (fun t0 nx0=>(Fq T ng o.op).run call env t0 nx0 fun v _ _=>K v t nx)=_;rw [acz,nD];show _=hdK hs fun t0 nx0 hs=>opH o.op ng T call ((aT o.op).map (opV ng env)) t0 nx0 fun v _ _=>K v t nx
      congr 1;funext t0 nx0 hs';rw [Tq o.op,nD]
     have h1:=EJ (all:=all) (o:=o) h0 call env t nx fun env t nx=>(xU T ng all its).run call env t nx hs k
     simp only [jK all its] at h1;rw [← h1];unfold afw;split
     ·rename_i hg;unfold BH;rw [hg];show hdR hs (fun t0 nx0=>(Fq T ng o.op).run call env t0 nx0 fun v _ _=>(CU o.dst).run env v fun env=>(xU T ng all its).run call env t nx hs k) =
       hdR hs (fun t0 nx0=>(Fq T ng o.op).run call env t0 nx0 fun v _ _=>(CU o.dst).run env v fun env=>CS its all T call ng env t nx hs k)
      simp only [jK all its]
     ·show (BH ng all o (acA (Fq T ng o.op) hs)).run call env t nx (fun env t nx=>(xU T ng all its).run call env t nx hs k)=_;simp only [jK all its]
    ·show (BH ng all o (aau T ng o.op _ hs)).run call env t nx (fun env t nx=>(xU T ng all its).run call env t nx hs k)=_;rw [EJ (h':=Cb back hs (opH o.op ng)) (fun _ _ _ _ _=>rfl)];simp only [jK all its]
   ·rename_i ho;rw [ho];rfl
 | .f _ _ _ _::_,_,_,_,_,_,_=>rfl
theorem Z5 (all:List Oper) (its:List DI) (call:Cl) (env:Tr V) (t:Tr Obj) (nx:B) (k:KE):(acS T ng all its).run call env t nx k=abT its all T call ng env t nx k:=by
 cases its with
 | nil=>exact jK (T:=T) (ng:=ng) all [] call env t nx [(t,nx)] k
 | cons it rest=>
   cases it with
   | f m n a b=>rfl
   | q j b=>exact jK (T:=T) (ng:=ng) all (.q j b::rest) call env t nx [(t,nx)] k
   | z j=>exact jK (T:=T) (ng:=ng) all (.z j::rest) call env t nx [(t,nx)] k
   | c j=>exact jK (T:=T) (ng:=ng) all (.c j::rest) call env t nx [(t,nx)] k
end
section
variable {P:Program} {T:Nat→TE} {w0:World} {ng:Nat} {nt:Nat}
def aft (x:X) (kn:KE) (ko:X→KE):KE:=match x with | .nrm=>kn | x=>ko x
theorem Yl {v:V} {a b e r:R} (h:Ym v a b e=r) (he:e≠r):(v = .bool true∧a=r)∨(v = .bool false∧b=r):=by
 cases v with
 | bool c=>cases c with
   | true=>exact .inl ⟨rfl,h⟩
   | false=>exact .inr ⟨rfl,h⟩
 | _=>exact absurd h he
theorem NR {call:Cl} {c:Code} {cc:CC} {N:Nat}
  (hb:∀ env t nx kn ko r,(∀ n,R.bad n≠r)→cc.run call N env t nx kn ko=r→∃ x env' t' nx',CT P T w0 ng nt c env t nx x env' t' nx'∧aft x kn ko env' t' nx'=r) :
  ∀ n env t nx kn ko r,(∀ n,R.bad n≠r)→NS cc call N n env t nx kn ko=r→∃ x env' t' nx',x ≠ .nrm∧LT P T w0 ng nt c env t nx x env' t' nx'∧aft x kn ko env' t' nx'=r
 | 0,_,_,_,_,_,_,hr,h=>absurd h (hr _)
 | n+1,env,t,nx,kn,ko,r,hr,h=>by
   have h':cc.run call N env t nx (fun env t nx=>NS cc call N n env t nx kn ko) ko=r:=h;obtain ⟨x,env1,t1,nx1,k1,k2⟩:=hb _ _ _ _ _ _ hr h';by_cases hx:x = .nrm
   ·subst hx;have k2:NS cc call N n env1 t1 nx1 kn ko=r:=k2;obtain ⟨x2,env2,t2,nx2,n2,k3,k4⟩:=NR hb n _ _ _ _ _ _ hr k2;refine ⟨x2,env2,t2,nx2,n2,fun g hp a w h1 h2 h3=>?_,k4⟩;refine nV.step (wp_mono (k1 g hp a w h1 h2 h3) fun e a1 w1 ⟨he,g1,hp1,st,ha⟩=>?_);subst he;intro b k cs;obtain ⟨e,a2,w2,⟨he,g2,hp2,st2,ha2⟩,harr⟩:=k3 g1 hp1 a1 w1 st.hr st.sub ha b k cs;exact ⟨e,a2,w2,⟨he,g2,hp2,st.trans st2,ha2⟩,harr⟩
   ·have k2:ko x env1 t1 nx1=r:=by cases x<;>first | exact absurd rfl hx | exact k2
    refine ⟨x,env1,t1,nx1,hx,fun g hp a w h1 h2 h3=>?_,by cases x<;>first | exact absurd rfl hx | exact k2⟩;refine nV.step (wp_mono (k1 g hp a w h1 h2 h3) fun e a1 w1 ⟨he,g1,hp1,st,ha⟩=>?_);subst he;cases x with
    | nrm=>exact absurd rfl hx
    | ex i=>exact ⟨rfl,g1,hp1,st,ha⟩
    | ret=>exact ⟨rfl,g1,hp1,st,ha⟩
theorem aaf (hT:TOK P T) {call:Cl} (hc:jh P T w0 ng call) {ann:Nat→List DI} (N:Nat):∀ c env t nx kn ko r,(∀ n,R.bad n≠r)→qO P T w0 ng nt ann c→(xY T ng ann c).run call N env t nx kn ko=r →
  ∃ x env' t' nx',CT P T w0 ng nt c env t nx x env' t' nx'∧aft x kn ko env' t' nx'=r:=by
 intro c
 induction c with
 | skip=>intro env t nx kn ko r hr _ h;exact ⟨.nrm,env,t,nx,fun g hp a w h1 h2 h3=>wp_skip ⟨rfl,g,hp,.refl h1 h2,h3⟩,h⟩
 | ret=>intro env t nx kn ko r hr _ h;exact ⟨.ret,env,t,nx,fun g hp a w h1 h2 h3=>wp_ret ⟨rfl,g,hp,.refl h1 h2,h3⟩,h⟩
 | exit id=>intro env t nx kn ko r hr _ h;exact ⟨.ex id,env,t,nx,fun g hp a w h1 h2 h3=>wp_exit ⟨rfl,g,hp,.refl h1 h2,h3⟩,h⟩
 | region id ops d=>
   intro env t nx kn ko r hr hok h;obtain ⟨ops⟩:=ops;cases d with
   | false=>
     have h':(Ws T ng ops ops).run call env t nx kn=r:=h;rw [RQ] at h';obtain ⟨env1,t1,nx1,k1,k2⟩:=zX hT hc (all:=ops) hok.1 hr (fun o ho=>ho) h';exact ⟨.nrm,env1,t1,nx1,fun g hp a w h1 h2 h3=>wp_region_lit (k2 g hp a w h1 h2 h3 _ fun g' hp' a' w' st ha=>⟨rfl,g',hp',st,ha⟩),k1⟩
   | true=>
     have h':(acS T ng ops (ann id)).run call env t nx kn=r:=h;rw [Z5] at h';obtain ⟨env1,t1,nx1,k1,k2⟩:=hok.2 rfl _ hc env t nx _ _ hr h';exact ⟨.nrm,env1,t1,nx1,fun g hp a w h1 h2 h3=>k2 id g hp a w h1 h2 h3 _ fun g' hp' a' w' st ha=>⟨rfl,g',hp',st,ha⟩,k1⟩
 | seq c1 c2 i1 i2=>
   intro env t nx kn ko r hr hok h;have h':(xY T ng ann c1).run call N env t nx (fun env t nx=>(xY T ng ann c2).run call N env t nx kn ko) ko=r:=h;obtain ⟨x1,env1,t1,nx1,k1,k2⟩:=i1 _ _ _ _ _ _ hr hok.1 h';cases x1 with
   | nrm=>
     obtain ⟨x2,env2,t2,nx2,k3,k4⟩:=i2 _ _ _ _ _ _ hr hok.2 k2;refine ⟨x2,env2,t2,nx2,fun g hp a w h1 h2 h3=>wp_seq (wp_mono (k1 g hp a w h1 h2 h3) fun e a1 w1 ⟨he,g1,hp1,st,ha⟩=>?_),k4⟩;subst he;exact wp_mono (k3 g1 hp1 a1 w1 st.hr st.sub ha) fun e a2 w2 ⟨he,g2,hp2,st2,ha2⟩=>⟨he,g2,hp2,st.trans st2,ha2⟩
   | ex i=>
     refine ⟨.ex i,env1,t1,nx1,fun g hp a w h1 h2 h3=>wp_seq (wp_mono (k1 g hp a w h1 h2 h3) fun e a1 w1 ⟨he,g1,hp1,st,ha⟩=>?_),k2⟩;subst he;exact ⟨rfl,g1,hp1,st,ha⟩
   | ret=>
     refine ⟨.ret,env1,t1,nx1,fun g hp a w h1 h2 h3=>wp_seq (wp_mono (k1 g hp a w h1 h2 h3) fun e a1 w1 ⟨he,g1,hp1,st,ha⟩=>?_),k2⟩;subst he;exact ⟨rfl,g1,hp1,st,ha⟩
 | cond y c1 c2 i1 i2=>
   intro env t nx kn ko r hr hok h;have h':Ym ((bD ng y).run env) ((xY T ng ann c1).run call N env t nx kn ko) ((xY T ng ann c2).run call N env t nx kn ko) (.bad 120)=r:=h;rw [bT] at h';have ev:∀ b,opV ng env y = .bool b→∀ g hp a w,HR T w0 ng g hp nx w→AR g nx.num nt env a→a.eval y = .bool b:=fun b hv g hp a w h1 h3=>by
    have hev:=h3.eval h1 y;rw [hv] at hev;generalize a.eval y=u at hev;cases hev;rfl
   rcases Yl h' (hr _) with ⟨hv,k⟩ | ⟨hv,k⟩
   ·obtain ⟨x,env1,t1,nx1,k1,k2⟩:=i1 _ _ _ _ _ _ hr hok.1 k;exact ⟨x,env1,t1,nx1,fun g hp a w h1 h2 h3=>wp_cond_true (ev _ hv g hp a w h1 h3) (k1 g hp a w h1 h2 h3),k2⟩
   ·obtain ⟨x,env1,t1,nx1,k1,k2⟩:=i2 _ _ _ _ _ _ hr hok.2 k;exact ⟨x,env1,t1,nx1,fun g hp a w h1 h2 h3=>wp_cond_false (ev _ hv g hp a w h1 h3) (k1 g hp a w h1 h2 h3),k2⟩
 | block id c1 i1=>
   intro env t nx kn ko r hr hok h;have h':(xY T ng ann c1).run call N env t nx kn (fun x env t nx=>xR x id (kn env t nx) (ko x env t nx))=r:=h;obtain ⟨x1,env1,t1,nx1,k1,k2⟩:=i1 _ _ _ _ _ _ hr hok h';cases x1 with
   | nrm=>
     refine ⟨.nrm,env1,t1,nx1,fun g hp a w h1 h2 h3=>wp_block (wp_mono (k1 g hp a w h1 h2 h3) fun e a1 w1 ⟨he,g1,hp1,st,ha⟩=>?_),k2⟩;subst he;exact ⟨rfl,g1,hp1,st,ha⟩
   | ret=>
     refine ⟨.ret,env1,t1,nx1,fun g hp a w h1 h2 h3=>wp_block (wp_mono (k1 g hp a w h1 h2 h3) fun e a1 w1 ⟨he,g1,hp1,st,ha⟩=>?_),k2⟩;subst he;exact ⟨rfl,g1,hp1,st,ha⟩
   | ex i=>
     have k2:aJ (Nat.beq i id) (kn env1 t1 nx1) (ko (.ex i) env1 t1 nx1)=r:=k2;rw [aQ] at k2;split at k2
     ·rename_i e;refine ⟨.nrm,env1,t1,nx1,fun g hp a w h1 h2 h3=>wp_block (wp_mono (k1 g hp a w h1 h2 h3) fun e' a1 w1 ⟨he,g1,hp1,st,ha⟩=>?_),k2⟩;subst he;simp only [X.exit,Exit.inBlock];rw [if_pos (beq_iff.1 e)];exact ⟨rfl,g1,hp1,st,ha⟩
     ·rename_i e;refine ⟨.ex i,env1,t1,nx1,fun g hp a w h1 h2 h3=>wp_block (wp_mono (k1 g hp a w h1 h2 h3) fun e' a1 w1 ⟨he,g1,hp1,st,ha⟩=>?_),k2⟩;subst he;simp only [X.exit,Exit.inBlock];rw [if_neg (fun e'=>e (beq_iff.2 e'))];exact ⟨rfl,g1,hp1,st,ha⟩
 | loop c1 i1=>
   intro env t nx kn ko r hr hok h;have h':NS (xY T ng ann c1) call N N env t nx kn ko=r:=h;obtain ⟨x,env1,t1,nx1,_,k1,k2⟩:=NR (P:=P) (w0:=w0) (nt:=nt) (c:=c1) (fun env t nx kn ko r hr h=>i1 env t nx kn ko r hr hok h) N _ _ _ _ _ _ hr h';exact ⟨x,env1,t1,nx1,fun g hp a w h1 h2 h3=>(k1 g hp a w h1 h2 h3).wp,k2⟩
 | _=>intro env t nx kn ko r hr _ h;exact absurd h (hr _)
theorem ab2 {r:R} {K:X→Tr V→Tr Obj→B→FR} {r':FR} (h:okF r K=r') (hr:∀ n,FR.bad n≠r'):∃ x env t nx,r = .ok x env t nx∧K x env t nx=r':=by
 cases r with
 | bad n=>exact absurd h (hr n)
 | ok x env t nx=>exact ⟨x,env,t,nx,rfl,h⟩
theorem Zb {o:Option FC} {K:FC→FR} {n:Nat} {r:FR} (h:aeb o K n=r) (hr:∀ n,FR.bad n≠r):∃ fc,o=some fc∧K fc=r:=by
 cases o with
 | none=>exact absurd h (hr n)
 | some v=>exact ⟨v,rfl,h⟩
theorem TU:∀ (args:List V) (i:Nat) (env:Tr V) (K:Tr V→R),ZW args i env K=K (ji args env i)
 | [],_,_,_=>rfl
 | v::vs,i,env,K=>by
   show (bOf i).rP env (some v) (fun env=>ZW vs (i+1) env K)=_;rw [B.iR,TU vs];rfl
def VG (P:Program) (T:Nat→TE) (w0:World) (ng:Nat) (F:Nat→Option FC):Prop:=∀ f fc,F f=some fc→∃ fe,fc=afj T ng fe ∧
 ∀ args t nx e v t' nx',fe.pre args t nx e = .ret v t' nx'→Comes P T w0 ng f args t nx v t' nx'∨(e = .ret v t' nx'∧ay P T w0 ng f fe)
noncomputable def fcK (T:Nat→TE) (ng:Nat) (o:Option FE):Option FC:=match o with | some fe=>some (afj T ng fe) | none=>none
theorem VG.of {F:Nat→Option FE} (h:FOK P T w0 ng F):VG P T w0 ng fun f=>fcK T ng (F f):=fun f fc hf=>by
 have hf:fcK T ng (F f)=some fc:=hf;cases hF:F f with
 | none=>rw [hF] at hf;cases hf
 | some fe=>
   rw [hF] at hf;exact ⟨fe,(Option.some.inj hf).symm,h f fe hF⟩
theorem GX (hT:TOK P T) {F:Nat→Option FC} (hF:VG P T w0 ng F) (N:Nat):∀ n,jh P T w0 ng (Uj T F ng N n)
 | 0=>fun f args t nx v t' nx' h=>by cases h
 | n+1=>fun f args t nx v t' nx' h=>by
   have ih:=GX hT hF N n;have hb:∀ n,FR.bad n ≠ .ret v t' nx':=fun n h=>by cases h
   obtain ⟨fc,hfc,k1⟩:=Zb h hb;obtain ⟨fe,rfl,hfe⟩:=hF f fc hfc;rcases hfe args t nx _ v t' nx' k1 with hct | ⟨k2,fn,e1,e2,e3,e4,e5,e6⟩
   ·exact hct
   obtain ⟨x,env1,t1,nx1,k4,k5⟩:=ab2 k2 hb;have hbr:∀ n,R.bad n ≠ .ok x env1 t1 nx1:=fun n h=>by cases h
   have k4:mQ (Nat.ble args.length fe.nt) (ZW args 0 .lf fun env=>(xY T ng fe.ann fe.body).run (Uj T F ng N n) N env t nx (fun env t nx => .ok .nrm env t nx) (fun x env t nx => .ok x env t nx)) (.bad 119) = .ok x env1 t1 nx1:=k4;rw [qE] at k4;obtain ⟨hle,k3⟩:=aA k4 (hbr _);have hle:=aZ.1 hle;rw [TU] at k3;obtain ⟨x1,env2,t2,nx2,hct,k6⟩:=aaf (nt:=fe.nt) hT ih N fe.body _ _ _ _ _ _ hbr e6 k3;have k6:R.ok x1 env2 t2 nx2 = .ok x env1 t1 nx1:=(by cases x1<;>exact k6);cases k6;exact .inl <| Yu e1 e2 e3 e4 e5 hT hle hct k5
end
end Go.Sim
namespace Go.Sim
open Go Go.RowKit
open Go.Abs (TE TK SK TOK teOf ksOf)
inductive TyT where
 | nil
 | leaf (t:Nat) (e:TE)
 | node (m:Nat) (l r:TyT)
def TyT.look:TyT→Nat→TE
 | .nil,_=>⟨.none,0,0,.tuple #[],[]⟩
 | .leaf t e,x=>match Nat.beq t x with | true=>e | false=>⟨.none,0,0,.tuple #[],[]⟩
 | .node m l r,x=>match Nat.blt x m with | true=>l.look x | false=>r.look x
def TyT.leaves:TyT→List (Nat×TE)
 | .nil=>[]
 | .leaf t e=>[(t,e)]
 | .node _ l r=>l.leaves++r.leaves
theorem TyT.Am (x:Nat):∀ t:TyT,(t.look x).k = .none∨(x,t.look x)∈t.leaves
 | .nil => .inl rfl
 | .leaf t e=>by
   unfold TyT.look;cases h:Nat.beq t x with
   | true=>right;rw [← Nat.eq_of_beq_eq_true h];exact List.mem_cons_self
   | false=>exact .inl rfl
 | .node m l r=>by
   unfold TyT.look;cases h:Nat.blt x m with
   | true=>exact (TyT.Am x l).imp id (fun h=>List.mem_append_left _ h)
   | false=>exact (TyT.Am x r).imp id (fun h=>List.mem_append_right _ h)
def LZ (e:TE):TE:={ e with ks:=[] }
def KU (P:Program) (x:Nat×TE):List SK:=match x.2.ks with | []=>[] | _=>ksOf P x.1
theorem TyT.tok {P:Program} {t:TyT} (h:t.leaves.map (fun x=>(LZ x.2,x.2.ks))=t.leaves.map (fun x=>(teOf P x.1,KU P x))):TOK P t.look:=fun x=>by
 rcases TyT.Am x t with h' | h'
 ·exact .inl h'
 ·right;have:∀ (l:List (Nat×TE)),l.map (fun x=>(LZ x.2,x.2.ks))=l.map (fun x=>(teOf P x.1,KU P x))→∀ e,(x,e)∈l→LZ e=teOf P x∧(e.ks=[]∨e.ks=ksOf P x):=by
   intro l
   induction l with
   | nil=>intro _ e he;cases he
   | cons y l ih=>
     intro hl e he;simp only [List.map_cons,List.cons.injEq,Prod.mk.injEq] at hl;rcases List.mem_cons.1 he with he | he
     ·rw [← he] at hl;refine ⟨hl.1.1,?_⟩;have:=hl.1.2;unfold KU at this;cases hk:e.ks with
      | nil=>exact .inl rfl
      | cons k ks=>right;simp only [hk] at this;exact this
     ·exact ih hl.2 e he
  exact this _ h _ h'
inductive FT where
 | nil
 | leaf (f:Nat) (e:FE)
 | node (m:Nat) (l r:FT)
noncomputable def FT.look:FT→Nat→Option FE
 | .nil,_=>none
 | .leaf t e,x=>match Nat.beq t x with | true=>some e | false=>none
 | .node m l r,x=>match Nat.blt x m with | true=>l.look x | false=>r.look x
def bP:List (Nat×List DI)→Nat→List DI
 | [],_=>[]
 | x::l,i=>match Nat.beq x.1 i with | true=>x.2 | false=>bP l i
noncomputable def aO (f:Func) (ann:Nat→List DI):FE:=⟨fun _ _ _ e=>e,match f.body with | some c=>c | none => .skip,f.results.toList,f.ntmps,ann⟩
end Go.Sim
