/- Sim: code made ready for the kernel does what the evaluator does. -/
import Derived.Test.YtpmapognbdiahaaGreatDoorSimN8And
set_option linter.all false
namespace Go.Sim
open Go Go.RowKit
open Go.Abs (TE TK SK TOK TFacts)
section
variable {T:Nat→TE} {ng:Nat}
theorem iE {h:HC} {op:Op} (H:∀ call env t nx K,h.run call env t nx K=opH op ng T call ((bJ op).map (opV ng env)) t nx K):h.For T ng op:=fun call env t nx K=>by
 rw [kT];exact H call env t nx K
theorem dR (op:Op):(slow T ng op).For T ng op:=fun _ _ _ _ _=>rfl
theorem Dl {op:Op} {x:Operand} (h1:bJ op=[x]) (h2:opH op ng=NU):(KI (bT ng x)).For T ng op:=iE fun call env t nx K=>by
 rw [h1,h2];show K ((bT ng x).run env) t nx=K (opV ng env x) t nx;rw [dw]
theorem Qo {k:TK} (h1:k ≠ .none) (h2:∀ fs,k ≠ .agg fs) (h3:∀ n e,k ≠ .arr n e) (n:Nat) (cs:Tr V) (off:Nat) (K:V→R) (e:R) :
  Ii k n cs off K e=aen ((lnT V off).get cs) K e:=by
 rw [XA];cases k with
 | none=>exact absurd rfl h1
 | agg fs=>exact absurd rfl (h2 fs)
 | arr n e=>exact absurd rfl (h3 n e)
 | _=>rfl
theorem Qy (ty:Nat) (x:Operand):(KJ T ng ty x (bT ng x)).For T ng (.load ty x):=by
 unfold KJ;split
 ·exact dR _
 ·rename_i fs hk;refine iE fun call env t nx K=>?_
  show AZ _ _ _=jr (opV ng env x) (fun id off=>iP (id.get t) (fun _ _ _ cs=>Ii (T ty).k (T ty).size cs off (fun v=>K v t nx) (.bad 2)) (.bad 3)) (.bad 4);rw [dw,xX,hk];simp only [Gp];rfl
 ·exact dR _
 ·rename_i h1 h2 h3;refine iE fun call env t nx K=>?_
  show AZ _ _ _=jr (opV ng env x) (fun id off=>iP (id.get t) (fun _ _ _ cs=>Ii (T ty).k (T ty).size cs off (fun v=>K v t nx) (.bad 2)) (.bad 3)) (.bad 4);rw [dw,xX];simp only [Gp,Qo (fun e=>h1 e) (fun fs e=>h2 fs e) (fun n e' e=>h3 n e' e)]
theorem XL (a b:Nat) (K:Nat→R):aez a b K=K (Nat.max a b):=by
 unfold aez;rw [nS,aQ];split
 ·rename_i h;have:=aY.1 h;rw [show Nat.max a b=b by show max a b=b;omega]
 ·rename_i h;have:¬ a≤b:=fun h'=>h (aY.2 h');rw [show Nat.max a b=a by show max a b=a;omega]
theorem Xr (id:B) (off:Nat) (v:V) (hv:one v=true) (t:Tr Obj) (K:Tr Obj→R) (e:R):Ti id off v t K e=oO id off [v] t K e:=by
 unfold Ti oO;rw [Gp];congr 1;funext ro sz hi cs;rw [nS,DK,nS,aI];have:List.all [v] one=true:=by simp [hv]
 rw [this];have:∀ b,and b true=b:=fun b=>by cases b<;>rfl
 rw [this];congr 1;rw [aQ,aQ];simp only [XL,aI];rfl
theorem TD (v:V) (K:V→R) (e:R):(MI v K e=e)∨(one v=true∧cellsOf v=[v]∧MI v K e=K v):=by
 cases v<;>first | exact .inl rfl | exact .inr ⟨rfl,rfl,rfl⟩
theorem KH (ty:Nat) (x y:Operand):(Fe T ng ty x y (bT ng x) (bT ng y)).For T ng (.store ty x y):=by
 unfold Fe;split
 ·rename_i hk;refine iE fun call env t nx K=>?_
  show MI ((bT ng y).run env) (fun v=>AZ ((bT ng x).run env) (fun id off=>Ti id off v t (fun t'=>K .any t' nx) (.bad 5)) (.bad 7)) ((slow T ng (.store ty x y)).run call env t nx K) =
   jr (opV ng env x) (fun id off=>aJ (and (Abs.TE.known (T ty)) (Nat.beq (T ty).size (cellsOf (opV ng env y)).length)) (oO id off (cellsOf (opV ng env y)) t (fun t'=>K .any t' nx) (.bad 5)) (.bad 6)) (.bad 7)
  rw [dw,dw];rcases TD (opV ng env y) (fun v=>AZ (opV ng env x) (fun id off=>Ti id off v t (fun t'=>K .any t' nx) (.bad 5)) (.bad 7)) ((slow T ng (.store ty x y)).run call env t nx K) with h | ⟨h1,h2,h3⟩
  ·rw [h];exact dR (.store ty x y) call env t nx K |>.trans (by rw [kT];rfl)
  ·rw [h3,xX,h2];simp only [Xr _ _ _ h1,List.length_singleton,hk,aQ,if_true]
 ·exact dR _
theorem ad4 (vs:List V):trS vs=fB vs .lf 0:=by unfold trS;rw [dS]
theorem agW (vs:List V):(trC vs).n=vs.length:=by unfold trC;cases vs<;>rfl
theorem ad5 (vs:List V):(trC vs).tr=fB vs .lf 0:=by
 unfold trC;cases vs with
 | nil=>rfl
 | cons v vs=>exact ad4 (v::vs)
theorem XI (n:Nat) (cs:Tr V) (t:Tr Obj) (nx:B) (K:KV):aex n cs t nx K=nM n cs t nx fun t' nx'=>K (.ptr nx 0) t' nx':=rfl
theorem KL (ty:Nat):(Fh T ng ty).For T ng (.alloc ty):=by
 unfold Fh;split
 ·rename_i hk;refine iE fun call env t nx K=>?_
  show aex (trC (cellsOf (cV (T ty).zero))).n (trC (cellsOf (cV (T ty).zero))).tr t nx K=aJ (Abs.TE.known (T ty)) (mkVar (cellsOf (cV (T ty).zero)) t nx K) (.bad 102);obtain ⟨h1,h2⟩:=aB hk;unfold mkVar;rw [h1,h2,aQ,if_pos rfl,aQ,if_pos rfl,agW,ad5,XI,dS,aI]
 ·exact dR _
theorem X6 (ty f:Nat) (x:Operand):(aeV T ng ty f x (bT ng x)).For T ng (.fieldAddr ty x f):=by
 unfold aeV;split
 ·rename_i fo fsz fb hk;split
  ·rename_i hz;refine iE fun call env t nx K=>?_
   show AZ ((bT ng x).run env) (fun id off=>fN (Nat.add off fo) fun o=>K (.ptr id o) t nx) (.bad 8) =
    X9 (ql (T ty).k f) (fun fo fsz _=>aJ (Nat.blt 0 fsz) (jr (opV ng env x) (fun id off=>aT (Nat.add off fo) fun o=>K (.ptr id o) t nx) (.bad 8)) (.bad 8)) (.bad 8)
   rw [hk,dw,xX];show _=aJ (Nat.blt 0 fsz) _ _;rw [hz,aQ,if_pos rfl];simp only [DK,aI]
  ·exact dR _
 ·exact dR _
theorem Ia (i:Int) (len:Nat) (K:Nat→R) (e:R):vO i (fun m=>aJ (Nat.blt m len) (K m) e) e=inB i len K e:=by cases i<;>rfl
theorem IE (v:V) (K:Int→R) (e:R):Di v K e=asInt v (fun _ i=>K i) e:=by unfold Di;rw [XU]
theorem X5 (ty:Nat) (x i:Operand):(aeU T ng ty x i (bT ng x) (bT ng i)).For T ng (.indexAddr ty x i):=by
 unfold aeU;split
 ·rename_i e hk;split
  ·rename_i hz;refine iE fun call env t nx K=>?_
   show slR ((bT ng x).run env) (fun id sz off len _=>Di ((bT ng i).run env) (fun i=>kL (Nat.beq sz (T e).size) (vO i (fun m=>kL (Nat.blt m len) (fN (Nat.add off (Nat.mul m sz)) fun o=>K (.ptr id o) t nx) (.bad 11)) (.bad 11)) (.bad 12)) (.bad 13)) (.bad 13) =
    Ky (T ty).k T (opV ng env x) (opV ng env i) t nx K
   rw [hk,dw,dw,aea];show _=mZ (opV ng env x) (fun id sz off len _=>asInt (opV ng env i) (fun _ i=>aJ (and (Abs.TE.known (T e)) (Nat.beq sz (T e).size)) (inB i len (fun m=>aT (Nat.add off (Nat.mul m sz)) fun o=>K (.ptr id o) t nx) (.bad 11)) (.bad 12)) (.bad 13)) (.bad 13);have ht:∀ b,and true b=b:=fun b=>by cases b<;>rfl
   simp only [IE,nS,Ia,DK,aI,hz,ht]
  ·exact dR _
 ·exact dR _
theorem KG (ty:Nat) (x i:Operand):(Fb T ng ty x i (bT ng x) (bT ng i)).For T ng (.index ty x i):=by
 unfold Fb;split
 ·rename_i hk;refine iE fun call env t nx K=>?_
  show Ee ((bT ng x).run env) (fun l n=>Di ((bT ng i).run env) (fun i=>vO i (fun m=>kL (Nat.blt m l) (fN (Nat.mod (Nat.shiftRight n (Nat.mul 8 (Nat.sub (Nat.sub l 1) m))) 256) fun c=>K (.int .u8 (.ofNat c)) t nx) (.bad 17)) (.bad 17)) (.bad 18)) (.bad 18) =
   Uk (T ty).k T (opV ng env x) (opV ng env i) t nx K
  rw [hk,dw,dw,Xl];show _=jo (opV ng env x) (fun l n=>asInt (opV ng env i) (fun _ i=>inB i l (fun m=>aT (Nat.mod (Nat.shiftRight n (Nat.mul 8 (Nat.sub (Nat.sub l 1) m))) 256) fun c=>K (.int .u8 (.ofNat c)) t nx) (.bad 17)) (.bad 18)) (.bad 18);simp only [IE,nS,Ia,DK,aI]
 ·exact dR _
theorem NS (v:V) (K:Int→R) (e:R):KD v K e=e∨∃ n,v = .int .i64 n∧KD v K e=K n:=by
 cases v with
 | int k n=>cases k<;>first | exact .inl rfl | exact .inr ⟨n,rfl,rfl⟩
 | _=>exact .inl rfl
theorem Pz (op:BinOp) (ty:Nat) (x y:Operand) (z:TypeId):(agz T ng op ty (KC op) (bT ng x) (bT ng y)).For T ng (.binOp op ty x y z):=iE fun call env t nx K=>by
 show KD ((bT ng x).run env) (fun m=>KD ((bT ng y).run env) (fun n=>(KC op).run m n (fun v=>K v t nx) (kM ((bT ng x).run env) (T ty) (opI op) (opS op) (opE op) ((bT ng y).run env) fun v=>K v t nx))
   (kM ((bT ng x).run env) (T ty) (opI op) (opS op) (opE op) ((bT ng y).run env) fun v=>K v t nx)) (kM ((bT ng x).run env) (T ty) (opI op) (opS op) (opE op) ((bT ng y).run env) fun v=>K v t nx) =
  kM (opV ng env x) (T ty) (opI op) (opS op) (opE op) (opV ng env y) (fun v=>K v t nx)
 rw [dw,dw];generalize opV ng env x=a;generalize opV ng env y=b;rcases NS a (fun m=>KD b (fun n=>(KC op).run m n (fun v=>K v t nx) (kM a (T ty) (opI op) (opS op) (opE op) b fun v=>K v t nx)) (kM a (T ty) (opI op) (opS op) (opE op) b fun v=>K v t nx)) (kM a (T ty) (opI op) (opS op) (opE op) b fun v=>K v t nx) with h | ⟨m,rfl,h⟩
 ·exact h
 ·rw [h];rcases NS b (fun n=>(KC op).run m n (fun v=>K v t nx) (kM (.int .i64 m) (T ty) (opI op) (opS op) (opE op) b fun v=>K v t nx)) (kM (.int .i64 m) (T ty) (opI op) (opS op) (opE op) b fun v=>K v t nx) with h | ⟨n,rfl,h⟩
  ·exact h
  ·rw [h];exact X4 op m n fun v=>K v t nx
theorem U9 (te:TE) (a b:V) (K:V→R):eqStr a b K (kM a te (opI .eql) (opS .eql) (opE .eql) b K)=kM a te (opI .eql) (opS .eql) (opE .eql) b K:=by
 cases a<;>try rfl
 cases b<;>try rfl
 rename_i l n l' n';show kL (Nat.beq l l') (bR (Nat.beq n n') K) (K (.bool false))=dI (and (Nat.beq l l') (Nat.beq n n')) fun x=>K (.bool x)
 rw [bF,D7];cases Nat.beq l l'<;>rfl
theorem TJ (te:TE) (a b:V) (K:V→R):TL a b K (kM a te (opI .neq) (opS .neq) (opE .neq) b K)=kM a te (opI .neq) (opS .neq) (opE .neq) b K:=by
 cases a<;>try rfl
 cases b<;>try rfl
 rename_i l n l' n';show kL (Nat.beq l l') (bnR (Nat.beq n n') K) (K (.bool true))=dI (not (and (Nat.beq l l') (Nat.beq n n'))) fun x=>K (.bool x)
 rw [bF,WB];cases Nat.beq l l'<;>rfl
theorem Us (op:BinOp) (ty:Nat) (x y:Operand) (z:TypeId):(Ut T ng op ty (bT ng x) (bT ng y)).For T ng (.binOp op ty x y z):=by
 unfold Ut;split
 ·split
  ·refine iE fun call env t nx K=>?_
   show eqStr ((bT ng x).run env) ((bT ng y).run env) (fun v=>K v t nx) (kM ((bT ng x).run env) (T ty) (opI .eql) (opS .eql) (opE .eql) ((bT ng y).run env) fun v=>K v t nx)=kM (opV ng env x) (T ty) (opI .eql) (opS .eql) (opE .eql) (opV ng env y) (fun v=>K v t nx);rw [dw,dw];exact U9 _ _ _ _
  ·refine iE fun call env t nx K=>?_
   show TL ((bT ng x).run env) ((bT ng y).run env) (fun v=>K v t nx) (kM ((bT ng x).run env) (T ty) (opI .neq) (opS .neq) (opE .neq) ((bT ng y).run env) fun v=>K v t nx)=kM (opV ng env x) (T ty) (opI .neq) (opS .neq) (opE .neq) (opV ng env y) (fun v=>K v t nx);rw [dw,dw];exact TJ _ _ _ _
  ·exact Pz _ ty x y z
 ·exact Pz _ ty x y z
theorem Nu:∀ (i:Nat) (l:List V) (K:V→R) (e:R),XG i l K e=jy l[i]? K e
 | 0,[],_,_=>rfl
 | 0,_::_,_,_=>rfl
 | _+1,[],_,_=>rfl
 | i+1,v::l,K,e=>by
   show XG i l K e=_;rw [Nu i l];rfl
theorem Fg (i:Nat) (x:Operand):(Dn i (bT ng x)).For T ng (.extract x i):=iE fun call env t nx K=>by
 show adZ ((bT ng x).run env) (fun vs=>XG i vs (fun v=>K v t nx) (.bad 104)) (.bad 105)=Au (opV ng env x) (fun vs=>jy vs[i]? (fun v=>K v t nx) (.bad 104)) (.bad 105);rw [dw,Xh];simp only [Nu]
theorem HY (ng:Nat) (env:Tr V):∀ xs:List Operand,(Cm ng xs).run env=xs.map (opV ng env)
 | []=>rfl
 | x::xs=>by
   show (bT ng x).run env::(Cm ng xs).run env=_;rw [dw,HY ng env xs];rfl
theorem ae9 (r:FR) (K:V→Tr Obj→B→R):frR r K=frK r .bad K:=by cases r<;>rfl
theorem Qz {c:Call} {f:Nat} (h:c.callee = .value (.func f)):(Ur f (Cm ng c.args.toList)).For T ng (.call c):=iE fun call env t nx K=>by
 have e1:bJ (.call c) = .func f::c.args.toList:=by simp only [bJ,h]
 have e2:opH (.call c) ng=UE:=by simp only [opH,h]
 rw [e1,e2];show frR (call f ((Cm ng c.args.toList).run env) t nx) K=frK (call f ([]++((c.args.toList.map (opV ng env))++[])) t nx) .bad K;rw [HY,ae9,List.nil_append,List.append_nil]
theorem Un {c:Call} {x:Operand} {ty:Nat} (h:c.callee = .builtin .len) (hx:c.args.toList=[x]) (ht:c.argTypes.toList=[ty]):(Uo T ng (.call c) ty (bT ng x)).For T ng (.call c):=by
 have e1:bJ (.call c)=[x]:=by
  have:bJ (.call c)=c.args.toList:=by simp only [bJ,h]
  rw [this,hx]
 have e2:opH (.call c) ng=hLen ty:=by
  have:opH (.call c) ng=opB .len c.args.toList c.argTypes.toList:=by simp only [opH,h]
  rw [this,hx,ht];rfl
 have sl:∀ call env t nx K,(slow T ng (.call c)).run call env t nx K=Ua (T ty).k (opV ng env x) t (fun n=>K (.int .i64 (.ofNat n)) t nx):=fun call env t nx K=>by
  rw [dR (.call c) call env t nx K,kT,e1,e2];rfl
 unfold Uo;split
 ·rename_i e hk;refine iE fun call env t nx K=>?_
  rw [e1,e2];show slR ((bT ng x).run env) (fun _ _ _ l _=>K (.int .i64 (.ofNat l)) t nx) ((slow T ng (.call c)).run call env t nx K)=Ua (T ty).k (opV ng env x) t (fun n=>K (.int .i64 (.ofNat n)) t nx);rw [dw,sl,hk];cases opV ng env x<;>rfl
 ·rename_i hk;refine iE fun call env t nx K=>?_
  rw [e1,e2];show Ee ((bT ng x).run env) (fun l _=>K (.int .i64 (.ofNat l)) t nx) ((slow T ng (.call c)).run call env t nx K)=Ua (T ty).k (opV ng env x) t (fun n=>K (.int .i64 (.ofNat n)) t nx);rw [dw,sl,hk];cases opV ng env x<;>rfl
 ·exact dR _
theorem NT (op:Op):(zN T ng op).For T ng op:=by
 unfold zN;split
 ·exact Dl rfl rfl
 ·exact Dl rfl rfl
 ·exact KL _
 ·exact Qy _ _
 ·exact KH _ _ _
 ·exact Us _ _ _ _ _
 ·exact X6 _ _ _
 ·exact X5 _ _ _
 ·exact KG _ _ _
 ·exact Fg _ _
 ·split
  ·rename_i h1;exact Qz h1
  ·rename_i h1 h2 h3;exact Un h1 h2 h3
  ·exact dR _
 ·exact dR _
theorem LW (dst:Option Tmp) (env:Tr V) (v:V) (K:Tr V→R):(xI dst).run env v K=tq dst env v K:=by cases dst<;>rfl
theorem tX {α:Type}:∀ (j:Nat) (l:List α) (K:α→R) (e:R),lK j l K e=jy l[j]? K e
 | 0,[],_,_=>rfl
 | 0,_::_,_,_=>rfl
 | _+1,[],_,_=>rfl
 | i+1,v::l,K,e=>by
   show lK i l K e=_;rw [tX i l];rfl
theorem XC (d:Tmp) (env:Tr V) (K:V→R):opK (.tmp d) ng env K=K ((bT ng (.tmp d)).run env):=by rw [dw,vM]
theorem zo {all:List Oper} {o:Oper} {h:HC} {h':H} (hh:∀ call env t nx K,h.run call env t nx K=vK (bJ o.op) ng env fun vals=>h' T call vals t nx K) (call:Cl) (env:Tr V) (t:Tr Obj) (nx:B) (k:KE) :
  (wM ng all o h).run call env t nx k=stepG o.guard all o.dst h' (bJ o.op) T call ng env t nx k:=by
 unfold wM;split
 ·rename_i hg;rw [hg];show h.run call env t nx (fun v t nx=>(xI o.dst).run env v fun env=>k env t nx)=vK (bJ o.op) ng env fun vals=>h' T call vals t nx fun v t nx=>tq o.dst env v fun env=>k env t nx
  rw [hh];simp only [LW]
 ·rename_i j want hg;rw [hg]
  show _=lK j all (fun oj=>jy oj.dst (fun d=>opK (.tmp d) ng env fun v=>
   asBool v (fun b=>aJ (qI b want) (vK (bJ o.op) ng env fun vals=>h' T call vals t nx fun v t nx=>tq o.dst env v fun env=>k env t nx) (tq o.dst env .undef fun env=>k env t nx))
    (qj v (tq o.dst env .undef fun env=>k env t nx) (.bad 112))) (.bad 113)) (.bad 113)
  rw [tX];split
  ·rename_i oj hj;rw [hj]
   show _=jy oj.dst (fun d=>opK (.tmp d) ng env fun v=>
    asBool v (fun b=>aJ (qI b want) (vK (bJ o.op) ng env fun vals=>h' T call vals t nx fun v t nx=>tq o.dst env v fun env=>k env t nx) (tq o.dst env .undef fun env=>k env t nx))
     (qj v (tq o.dst env .undef fun env=>k env t nx) (.bad 112))) (.bad 113)
   split
   ·rename_i d hd;rw [hd];have e:∀ k':Tmp→R,jy (some d) k' (R.bad 113)=k' d:=fun _=>rfl
    rw [e,XC];show Pv ((bT ng (.tmp d)).run env) (fun b=>kL (qI b want) (h.run call env t nx fun v t nx=>(xI o.dst).run env v fun env=>k env t nx) ((xI o.dst).run env .undef fun env=>k env t nx))
     (qj ((bT ng (.tmp d)).run env) ((xI o.dst).run env .undef fun env=>k env t nx) (.bad 112))=_
    rw [WA,hh];simp only [LW,nS]
   ·rename_i hd;rw [hd];rfl
  ·rename_i hj;rw [hj];rfl
theorem TF (all:List Oper) (o:Oper):H6 T ng all o=wM ng all o (zN T ng o.op):=rfl
theorem EH (all:List Oper) (o:Oper) (call:Cl) (env:Tr V) (t:Tr Obj) (nx:B) (k:KE):(H6 T ng all o).run call env t nx k=stepG o.guard all o.dst (opH o.op ng) (bJ o.op) T call ng env t nx k:=by
 rw [TF];exact zo (NT o.op) call env t nx k
theorem LU (all:List Oper):∀ (os:List Oper) (call:Cl) (env:Tr V) (t:Tr Obj) (nx:B) (k:KE),(Sj T ng all os).run call env t nx k=JB os all T call ng env t nx k
 | [],_,_,_,_,_=>rfl
 | o::os,call,env,t,nx,k=>by
   show (H6 T ng all o).run call env t nx (fun env t nx=>(Sj T ng all os).run call env t nx k)=stepG o.guard all o.dst (opH o.op ng) (bJ o.op) T call ng env t nx fun env t nx=>JB os all T call ng env t nx k
   rw [EH];simp only [LU all os]
theorem aeS (hs:List (Tr Obj×B)) (K:Tr Obj→B→R):hdR hs K=hdK hs fun t nx _=>K t nx:=by
 cases hs with
 | nil=>rfl
 | cons h hs=>rfl
theorem jg (all:List Oper):∀ (its:List DI) (call:Cl) (env:Tr V) (t:Tr Obj) (nx:B) (hs:List (Tr Obj×B)) (k:KE),(rP T ng all its).run call env t nx hs k=xH its all T call ng env t nx hs k
 | [],_,_,_,_,_,_=>rfl
 | .z j::its,call,env,t,nx,hs,k=>by
   show _=lK j all (fun o=>stepG o.guard all o.dst (opH o.op ng) (bJ o.op) T call ng env t nx fun env t nx=>xH its all T call ng env t nx hs k) (.bad 132);rw [tX];unfold rP;split
   ·rename_i o ho;rw [ho];show (H6 T ng all o).run call env t nx (fun env t nx=>(rP T ng all its).run call env t nx hs k)=stepG o.guard all o.dst (opH o.op ng) (bJ o.op) T call ng env t nx fun env t nx=>xH its all T call ng env t nx hs k
    rw [EH];simp only [jg all its]
   ·rename_i ho;rw [ho];rfl
 | .c j::its,call,env,t,nx,hs,k=>by
   show _=lK j all (fun o=>stepG o.guard all o.dst (opH o.op ng) (bJ o.op) T call ng env t nx fun env t nx=>xH its all T call ng env t nx ((t,nx)::hs) k) (.bad 132);rw [tX];unfold rP;split
   ·rename_i o ho;rw [ho];show (H6 T ng all o).run call env t nx (fun env t nx=>(rP T ng all its).run call env t nx ((t,nx)::hs) k)=stepG o.guard all o.dst (opH o.op ng) (bJ o.op) T call ng env t nx fun env t nx=>xH its all T call ng env t nx ((t,nx)::hs) k
    rw [EH];simp only [jg all its]
   ·rename_i ho;rw [ho];rfl
 | .q j back::its,call,env,t,nx,hs,k=>by
   show _=lK j all (fun o=>stepG o.guard all o.dst (wZ back hs (opH o.op ng)) (bJ o.op) T call ng env t nx fun env t nx=>xH its all T call ng env t nx hs k) (.bad 132);rw [tX];unfold rP;split
   ·rename_i o ho;rw [ho];show _=stepG o.guard all o.dst (wZ back hs (opH o.op ng)) (bJ o.op) T call ng env t nx fun env t nx=>xH its all T call ng env t nx hs k
    split
    ·have h0:∀ call env t nx K,(aeT (zN T ng o.op) hs).run call env t nx K=vK (bJ o.op) ng env fun vals=>wZ 0 hs (opH o.op ng) T call vals t nx K:=fun call env t nx K=>by
      show hdR hs (fun t0 nx0=>(zN T ng o.op).run call env t0 nx0 fun v _ _=>K v t nx)=_;rw [aeS,kT];show _=hdK hs fun t0 nx0 hs=>opH o.op ng T call ((bJ o.op).map (opV ng env)) t0 nx0 fun v _ _=>K v t nx
      congr 1;funext t0 nx0 hs';rw [NT o.op,kT]
     have h1:=zo (all:=all) (o:=o) h0 call env t nx fun env t nx=>(rP T ng all its).run call env t nx hs k
     simp only [jg all its] at h1;rw [← h1];unfold aiG;split
     ·rename_i hg;unfold wM;rw [hg];show hdR hs (fun t0 nx0=>(zN T ng o.op).run call env t0 nx0 fun v _ _=>(xI o.dst).run env v fun env=>(rP T ng all its).run call env t nx hs k) =
       hdR hs (fun t0 nx0=>(zN T ng o.op).run call env t0 nx0 fun v _ _=>(xI o.dst).run env v fun env=>xH its all T call ng env t nx hs k)
      simp only [jg all its]
     ·show (wM ng all o (aeT (zN T ng o.op) hs)).run call env t nx (fun env t nx=>(rP T ng all its).run call env t nx hs k)=_;simp only [jg all its]
    ·show (wM ng all o (ZX T ng o.op _ hs)).run call env t nx (fun env t nx=>(rP T ng all its).run call env t nx hs k)=_;rw [zo (h':=wZ back hs (opH o.op ng)) (fun _ _ _ _ _=>rfl)];simp only [jg all its]
   ·rename_i ho;rw [ho];rfl
 | .f _ _ _ _::_,_,_,_,_,_,_=>rfl
theorem YG (all:List Oper) (its:List DI) (call:Cl) (env:Tr V) (t:Tr Obj) (nx:B) (k:KE):(afs T ng all its).run call env t nx k=aeb its all T call ng env t nx k:=by
 cases its with
 | nil=>exact jg (T:=T) (ng:=ng) all [] call env t nx [(t,nx)] k
 | cons it rest=>
   cases it with
   | f m n a b=>rfl
   | q j b=>exact jg (T:=T) (ng:=ng) all (.q j b::rest) call env t nx [(t,nx)] k
   | z j=>exact jg (T:=T) (ng:=ng) all (.z j::rest) call env t nx [(t,nx)] k
   | c j=>exact jg (T:=T) (ng:=ng) all (.c j::rest) call env t nx [(t,nx)] k
end
section
variable {P:Program} {T:Nat→TE} {w0:World} {ng:Nat} {nt:Nat}
def aft (x:X) (kn:KE) (ko:X→KE):KE:=match x with | .nrm=>kn | x=>ko x
theorem V9 {v:V} {a b e r:R} (h:Wh v a b e=r) (he:e≠r):(v = .bool true∧a=r)∨(v = .bool false∧b=r):=by
 cases v with
 | bool c=>cases c with
   | true=>exact .inl ⟨rfl,h⟩
   | false=>exact .inr ⟨rfl,h⟩
 | _=>exact absurd h he
theorem Ib {call:Cl} {c:Code} {cc:CC} {N:Nat}
  (hb:∀ env t nx kn ko r,(∀ n,R.bad n≠r)→cc.run call N env t nx kn ko=r→∃ x env' t' nx',CT P T w0 ng nt c env t nx x env' t' nx'∧aft x kn ko env' t' nx'=r) :
  ∀ n env t nx kn ko r,(∀ n,R.bad n≠r)→Ic cc call N n env t nx kn ko=r→∃ x env' t' nx',x ≠ .nrm∧LT P T w0 ng nt c env t nx x env' t' nx'∧aft x kn ko env' t' nx'=r
 | 0,_,_,_,_,_,_,hr,h=>absurd h (hr _)
 | n+1,env,t,nx,kn,ko,r,hr,h=>by
   have h':cc.run call N env t nx (fun env t nx=>Ic cc call N n env t nx kn ko) ko=r:=h;obtain ⟨x,env1,t1,nx1,k1,k2⟩:=hb _ _ _ _ _ _ hr h';by_cases hx:x = .nrm
   ·subst hx;have k2:Ic cc call N n env1 t1 nx1 kn ko=r:=k2;obtain ⟨x2,env2,t2,nx2,n2,k3,k4⟩:=Ib hb n _ _ _ _ _ _ hr k2;refine ⟨x2,env2,t2,nx2,n2,fun g hp a w h1 h2 h3=>?_,k4⟩;refine lG.step (wp_mono (k1 g hp a w h1 h2 h3) fun e a1 w1 ⟨he,g1,hp1,st,ha⟩=>?_);subst he;intro b k cs;obtain ⟨e,a2,w2,⟨he,g2,hp2,st2,ha2⟩,harr⟩:=k3 g1 hp1 a1 w1 st.hr st.sub ha b k cs;exact ⟨e,a2,w2,⟨he,g2,hp2,st.trans st2,ha2⟩,harr⟩
   ·have k2:ko x env1 t1 nx1=r:=by cases x<;>first | exact absurd rfl hx | exact k2
    refine ⟨x,env1,t1,nx1,hx,fun g hp a w h1 h2 h3=>?_,by cases x<;>first | exact absurd rfl hx | exact k2⟩;refine lG.step (wp_mono (k1 g hp a w h1 h2 h3) fun e a1 w1 ⟨he,g1,hp1,st,ha⟩=>?_);subst he;cases x with
    | nrm=>exact absurd rfl hx
    | ex i=>exact ⟨rfl,g1,hp1,st,ha⟩
    | ret=>exact ⟨rfl,g1,hp1,st,ha⟩
theorem ZF (hT:TOK P T) {call:Cl} (hc:jd P T w0 ng call) {ann:Nat→List DI} (N:Nat):∀ c env t nx kn ko r,(∀ n,R.bad n≠r)→nV P T w0 ng nt ann c→(rU T ng ann c).run call N env t nx kn ko=r →
  ∃ x env' t' nx',CT P T w0 ng nt c env t nx x env' t' nx'∧aft x kn ko env' t' nx'=r:=by
 intro c
 induction c with
 | skip=>intro env t nx kn ko r hr _ h;exact ⟨.nrm,env,t,nx,fun g hp a w h1 h2 h3=>wp_skip ⟨rfl,g,hp,.refl h1 h2,h3⟩,h⟩
 | ret=>intro env t nx kn ko r hr _ h;exact ⟨.ret,env,t,nx,fun g hp a w h1 h2 h3=>wp_ret ⟨rfl,g,hp,.refl h1 h2,h3⟩,h⟩
 | exit id=>intro env t nx kn ko r hr _ h;exact ⟨.ex id,env,t,nx,fun g hp a w h1 h2 h3=>wp_exit ⟨rfl,g,hp,.refl h1 h2,h3⟩,h⟩
 | region id ops d=>
   intro env t nx kn ko r hr hok h;obtain ⟨ops⟩:=ops;cases d with
   | false=>
     have h':(Sj T ng ops ops).run call env t nx kn=r:=h;rw [LU] at h';obtain ⟨env1,t1,nx1,k1,k2⟩:=vC hT hc (all:=ops) hok.1 hr (fun o ho=>ho) h';exact ⟨.nrm,env1,t1,nx1,fun g hp a w h1 h2 h3=>wp_region_lit (k2 g hp a w h1 h2 h3 _ fun g' hp' a' w' st ha=>⟨rfl,g',hp',st,ha⟩),k1⟩
   | true=>
     have h':(afs T ng ops (ann id)).run call env t nx kn=r:=h;rw [YG] at h';obtain ⟨env1,t1,nx1,k1,k2⟩:=hok.2 rfl _ hc env t nx _ _ hr h';exact ⟨.nrm,env1,t1,nx1,fun g hp a w h1 h2 h3=>k2 id g hp a w h1 h2 h3 _ fun g' hp' a' w' st ha=>⟨rfl,g',hp',st,ha⟩,k1⟩
 | seq c1 c2 i1 i2=>
   intro env t nx kn ko r hr hok h;have h':(rU T ng ann c1).run call N env t nx (fun env t nx=>(rU T ng ann c2).run call N env t nx kn ko) ko=r:=h;obtain ⟨x1,env1,t1,nx1,k1,k2⟩:=i1 _ _ _ _ _ _ hr hok.1 h';cases x1 with
   | nrm=>
     obtain ⟨x2,env2,t2,nx2,k3,k4⟩:=i2 _ _ _ _ _ _ hr hok.2 k2;refine ⟨x2,env2,t2,nx2,fun g hp a w h1 h2 h3=>wp_seq (wp_mono (k1 g hp a w h1 h2 h3) fun e a1 w1 ⟨he,g1,hp1,st,ha⟩=>?_),k4⟩;subst he;exact wp_mono (k3 g1 hp1 a1 w1 st.hr st.sub ha) fun e a2 w2 ⟨he,g2,hp2,st2,ha2⟩=>⟨he,g2,hp2,st.trans st2,ha2⟩
   | ex i=>
     refine ⟨.ex i,env1,t1,nx1,fun g hp a w h1 h2 h3=>wp_seq (wp_mono (k1 g hp a w h1 h2 h3) fun e a1 w1 ⟨he,g1,hp1,st,ha⟩=>?_),k2⟩;subst he;exact ⟨rfl,g1,hp1,st,ha⟩
   | ret=>
     refine ⟨.ret,env1,t1,nx1,fun g hp a w h1 h2 h3=>wp_seq (wp_mono (k1 g hp a w h1 h2 h3) fun e a1 w1 ⟨he,g1,hp1,st,ha⟩=>?_),k2⟩;subst he;exact ⟨rfl,g1,hp1,st,ha⟩
 | cond y c1 c2 i1 i2=>
   intro env t nx kn ko r hr hok h;have h':Wh ((bT ng y).run env) ((rU T ng ann c1).run call N env t nx kn ko) ((rU T ng ann c2).run call N env t nx kn ko) (.bad 120)=r:=h;rw [dw] at h';have ev:∀ b,opV ng env y = .bool b→∀ {ds:List Deferred} g hp a w,HR T w0 ng g hp nx w→AR ds g nx.num nt env a→a.eval y = .bool b:=fun b hv=>fun g hp a w h1 h3=>by
    have hev:=h3.eval h1 y;rw [hv] at hev;generalize a.eval y=u at hev;cases hev;rfl
   rcases V9 h' (hr _) with ⟨hv,k⟩ | ⟨hv,k⟩
   ·obtain ⟨x,env1,t1,nx1,k1,k2⟩:=i1 _ _ _ _ _ _ hr hok.1 k;exact ⟨x,env1,t1,nx1,fun g hp a w h1 h2 h3=>wp_cond_true (ev _ hv g hp a w h1 h3) (k1 g hp a w h1 h2 h3),k2⟩
   ·obtain ⟨x,env1,t1,nx1,k1,k2⟩:=i2 _ _ _ _ _ _ hr hok.2 k;exact ⟨x,env1,t1,nx1,fun g hp a w h1 h2 h3=>wp_cond_false (ev _ hv g hp a w h1 h3) (k1 g hp a w h1 h2 h3),k2⟩
 | block id c1 i1=>
   intro env t nx kn ko r hr hok h;have h':(rU T ng ann c1).run call N env t nx kn (fun x env t nx=>xR x id (kn env t nx) (ko x env t nx))=r:=h;obtain ⟨x1,env1,t1,nx1,k1,k2⟩:=i1 _ _ _ _ _ _ hr hok h';cases x1 with
   | nrm=>
     refine ⟨.nrm,env1,t1,nx1,fun g hp a w h1 h2 h3=>wp_block (wp_mono (k1 g hp a w h1 h2 h3) fun e a1 w1 ⟨he,g1,hp1,st,ha⟩=>?_),k2⟩;subst he;exact ⟨rfl,g1,hp1,st,ha⟩
   | ret=>
     refine ⟨.ret,env1,t1,nx1,fun g hp a w h1 h2 h3=>wp_block (wp_mono (k1 g hp a w h1 h2 h3) fun e a1 w1 ⟨he,g1,hp1,st,ha⟩=>?_),k2⟩;subst he;exact ⟨rfl,g1,hp1,st,ha⟩
   | ex i=>
     have k2:aJ (Nat.beq i id) (kn env1 t1 nx1) (ko (.ex i) env1 t1 nx1)=r:=k2;rw [aQ] at k2;split at k2
     ·rename_i e;refine ⟨.nrm,env1,t1,nx1,fun g hp a w h1 h2 h3=>wp_block (wp_mono (k1 g hp a w h1 h2 h3) fun e' a1 w1 ⟨he,g1,hp1,st,ha⟩=>?_),k2⟩;subst he;simp only [X.exit,Exit.inBlock];rw [if_pos (beq_iff.1 e)];exact ⟨rfl,g1,hp1,st,ha⟩
     ·rename_i e;refine ⟨.ex i,env1,t1,nx1,fun g hp a w h1 h2 h3=>wp_block (wp_mono (k1 g hp a w h1 h2 h3) fun e' a1 w1 ⟨he,g1,hp1,st,ha⟩=>?_),k2⟩;subst he;simp only [X.exit,Exit.inBlock];rw [if_neg (fun e'=>e (beq_iff.2 e'))];exact ⟨rfl,g1,hp1,st,ha⟩
 | loop c1 i1=>
   intro env t nx kn ko r hr hok h;have h':Ic (rU T ng ann c1) call N N env t nx kn ko=r:=h;obtain ⟨x,env1,t1,nx1,_,k1,k2⟩:=Ib (P:=P) (w0:=w0) (nt:=nt) (c:=c1) (fun env t nx kn ko r hr h=>i1 env t nx kn ko r hr hok h) N _ _ _ _ _ _ hr h';exact ⟨x,env1,t1,nx1,fun g hp a w h1 h2 h3=>(k1 g hp a w h1 h2 h3).wp,k2⟩
 | _=>intro env t nx kn ko r hr _ h;exact absurd h (hr _)
theorem aes {r:R} {K:X→Tr V→Tr Obj→B→FR} {r':FR} (h:okF r K=r') (hr:∀ n,FR.bad n≠r'):∃ x env t nx,r = .ok x env t nx∧K x env t nx=r':=by
 cases r with
 | bad n=>exact absurd h (hr n)
 | ok x env t nx=>exact ⟨x,env,t,nx,rfl,h⟩
theorem XB {o:Option FC} {K:FC→FR} {n:Nat} {r:FR} (h:ahb o K n=r) (hr:∀ n,FR.bad n≠r):∃ fc,o=some fc∧K fc=r:=by
 cases o with
 | none=>exact absurd h (hr n)
 | some v=>exact ⟨v,rfl,h⟩
theorem Ol:∀ (args:List V) (i:Nat) (env:Tr V) (K:Tr V→R),YD args i env K=K (fB args env i)
 | [],_,_,_=>rfl
 | v::vs,i,env,K=>by
   show (bOf i).jv env (some v) (fun env=>YD vs (i+1) env K)=_;rw [B.eu,Ol vs];rfl
def dY (P:Program) (T:Nat→TE) (w0:World) (ng:Nat) (F:Nat→Option FC):Prop:=∀ f fc,F f=some fc→∃ fe,fc=QH T ng fe ∧
 ∀ args t nx e v t' nx',fe.pre args t nx e = .ret v t' nx'→Comes P T w0 ng f args t nx v t' nx'∨(e = .ret v t' nx'∧au P T w0 ng f fe)
noncomputable def fcK (T:Nat→TE) (ng:Nat) (o:Option FE):Option FC:=match o with | some fe=>some (QH T ng fe) | none=>none
theorem dY.of {F:Nat→Option FE} (h:FOK P T w0 ng F):dY P T w0 ng fun f=>fcK T ng (F f):=fun f fc hf=>by
 have hf:fcK T ng (F f)=some fc:=hf;cases hF:F f with
 | none=>rw [hF] at hf;cases hf
 | some fe=>
   rw [hF] at hf;exact ⟨fe,(Option.some.inj hf).symm,h f fe hF⟩
theorem uK (hT:TOK P T) {F:Nat→Option FC} (hF:dY P T w0 ng F) (N:Nat):∀ n,jd P T w0 ng (qV T F ng N n)
 | 0=>fun f args t nx v t' nx' h=>by cases h
 | n+1=>fun f args t nx v t' nx' h=>by
   have ih:=uK hT hF N n;have hb:∀ n,FR.bad n ≠ .ret v t' nx':=fun n h=>by cases h
   obtain ⟨fc,hfc,k1⟩:=XB h hb;obtain ⟨fe,rfl,hfe⟩:=hF f fc hfc;rcases hfe args t nx _ v t' nx' k1 with hct | ⟨k2,fn,e1,e2,e3,e4,e5,e6⟩
   ·exact hct
   obtain ⟨x,env1,t1,nx1,k4,k5⟩:=aes k2 hb;have hbr:∀ n,R.bad n ≠ .ok x env1 t1 nx1:=fun n h=>by cases h
   have k4:kL (Nat.ble args.length fe.nt) (YD args 0 .lf fun env=>(rU T ng fe.ann fe.body).run (qV T F ng N n) N env t nx (fun env t nx => .ok .nrm env t nx) (fun x env t nx => .ok x env t nx)) (.bad 119) = .ok x env1 t1 nx1:=k4;rw [nS] at k4;obtain ⟨hle,k3⟩:=aG k4 (hbr _);have hle:=aY.1 hle;rw [Ol] at k3;obtain ⟨x1,env2,t2,nx2,hct,k6⟩:=ZF (nt:=fe.nt) hT ih N fe.body _ _ _ _ _ _ hbr e6 k3;have k6:R.ok x1 env2 t2 nx2 = .ok x env1 t1 nx1:=(by cases x1<;>exact k6);cases k6;exact .inl <| Wu e1 e2 e3 e4 e5 hT hle hct k5
end
end Go.Sim
namespace Go.Sim
open Go Go.RowKit
open Go.Abs (TE TK SK TOK teOf ksOf)
inductive TyT where
 | nil
 | leaf (t:Nat) (e:TE)
 | node (m:Nat) (l r:TyT)
def TyT.look:TyT→Nat→TE
 | .nil,_=>⟨.none,0,0,.tuple #[],[]⟩
 | .leaf t e,x=>match Nat.beq t x with | true=>e | false=>⟨.none,0,0,.tuple #[],[]⟩
 | .node m l r,x=>match Nat.blt x m with | true=>l.look x | false=>r.look x
def TyT.leaves:TyT→List (Nat×TE)
 | .nil=>[]
 | .leaf t e=>[(t,e)]
 | .node _ l r=>l.leaves++r.leaves
theorem TyT.vP (x:Nat):∀ t:TyT,(t.look x).k = .none∨(x,t.look x)∈t.leaves
 | .nil => .inl rfl
 | .leaf t e=>by
   unfold TyT.look;cases h:Nat.beq t x with
   | true=>right;rw [← Nat.eq_of_beq_eq_true h];exact List.mem_cons_self
   | false=>exact .inl rfl
 | .node m l r=>by
   unfold TyT.look;cases h:Nat.blt x m with
   | true=>exact (TyT.vP x l).imp id (fun h=>List.mem_append_left _ h)
   | false=>exact (TyT.vP x r).imp id (fun h=>List.mem_append_right _ h)
def Gq (e:TE):TE:={ e with ks:=[] }
def E5 (P:Program) (x:Nat×TE):List SK:=match x.2.ks with | []=>[] | _=>ksOf P x.1
theorem TyT.tok {P:Program} {t:TyT} (h:t.leaves.map (fun x=>(Gq x.2,x.2.ks))=t.leaves.map (fun x=>(teOf P x.1,E5 P x))):TOK P t.look:=fun x=>by
 rcases TyT.vP x t with h' | h'
 ·exact .inl h'
 ·right;have:∀ (l:List (Nat×TE)),l.map (fun x=>(Gq x.2,x.2.ks))=l.map (fun x=>(teOf P x.1,E5 P x))→∀ e,(x,e)∈l→Gq e=teOf P x∧(e.ks=[]∨e.ks=ksOf P x):=by
   intro l
   induction l with
   | nil=>intro _ e he;cases he
   | cons y l ih=>
     intro hl e he;simp only [List.map_cons,List.cons.injEq,Prod.mk.injEq] at hl;rcases List.mem_cons.1 he with he | he
     ·rw [← he] at hl;refine ⟨hl.1.1,?_⟩;have:=hl.1.2;unfold E5 at this;cases hk:e.ks with
      | nil=>exact .inl rfl
      | cons k ks=>right;simp only [hk] at this;exact this
     ·exact ih hl.2 e he
  exact this _ h _ h'
inductive FT where
 | nil
 | leaf (f:Nat) (e:FE)
 | node (m:Nat) (l r:FT)
noncomputable def FT.look:FT→Nat→Option FE
 | .nil,_=>none
 | .leaf t e,x=>match Nat.beq t x with | true=>some e | false=>none
 | .node m l r,x=>match Nat.blt x m with | true=>l.look x | false=>r.look x
def aV:List (Nat×List DI)→Nat→List DI
 | [],_=>[]
 | x::l,i=>match Nat.beq x.1 i with | true=>x.2 | false=>aV l i
noncomputable def aF (f:Func) (ann:Nat→List DI):FE:=⟨fun _ _ _ e=>e,match f.body with | some c=>c | none => .skip,f.results.toList,f.ntmps,ann⟩
end Go.Sim
namespace Go.Sim
open Go Go.RowKit
open Go.Abs (TE TK SK TOK)
inductive dJ (D:B→B→Prop):V→V→Prop
 | bool (b:Bool):dJ D (.bool b) (.bool b)
 | int (k:IntKind) (m:Int):dJ D (.int k m) (.int k m)
 | str (l m:Nat):dJ D (.str l m) (.str l m)
 | fC:dJ D .fC .fC
 | ptr (i j:B) (off:Nat):D i j→dJ D (.ptr i off) (.ptr j off)
 | aj:dJ D .aj .aj
 | gq:dJ D .gq .gq
 | sl (i j:B) (sz off len:Nat) (cap:Option Nat):D i j→dJ D (.sl i sz off len cap) (.sl j sz off len cap)
 | gU:dJ D .gU .gU
 | map (i j:B):D i j→dJ D (.map i) (.map j)
 | gZ:dJ D .gZ .gZ
 | fn (f:Nat) (fs fs' cs cs':List V):fs.length=fs'.length→(∀ (i:Nat) a b,fs[i]?=some a→fs'[i]?=some b→dJ D a b)→cs.length=cs'.length→(∀ (i:Nat) a b,cs[i]?=some a→cs'[i]?=some b→dJ D a b)→dJ D (.fn f fs cs) (.fn f fs' cs')
 | iy:dJ D .iy .iy
 | ifc (t:Nat) (v v':V):dJ D v v'→dJ D (.ifc t v) (.ifc t v')
 | agg (cs cs':List V):cs.length=cs'.length→(∀ (i:Nat) a b,cs[i]?=some a→cs'[i]?=some b→dJ D a b)→dJ D (.agg cs) (.agg cs')
 | tup (cs cs':List V):cs.length=cs'.length→(∀ (i:Nat) a b,cs[i]?=some a→cs'[i]?=some b→dJ D a b)→dJ D (.tup cs) (.tup cs')
 | any:dJ D .any .any
def pO (D:B→B→Prop) (a b:List V):Prop:=a.length=b.length∧∀ (i:Nat) x y,a[i]?=some x→b[i]?=some y→dJ D x y
theorem pO.nil {D:B→B→Prop}:pO D [] []:=⟨rfl,fun i x y h=>by simp at h⟩
theorem pO.cons {D:B→B→Prop} {x y:V} {a b:List V} (h:dJ D x y) (hs:pO D a b):pO D (x::a) (y::b):=
 ⟨by simp [hs.1],fun i u v hu hv=>by
  cases i with
  | zero=>simp at hu hv;subst hu;subst hv;exact h
  | succ i=>simp at hu hv;exact hs.2 i u v hu hv⟩
theorem dJ.mono {D D':B→B→Prop} (hD:∀ i j,D i j→D' i j) {a b:V} (h:dJ D a b):dJ D' a b:=by
 induction h with
 | bool b=>exact .bool b
 | int k m=>exact .int k m
 | str l m=>exact .str l m
 | fC=>exact .fC
 | ptr i j off h=>exact .ptr i j off (hD i j h)
 | aj=>exact .aj
 | gq=>exact .gq
 | sl i j sz off len cap h=>exact .sl i j sz off len cap (hD i j h)
 | gU=>exact .gU
 | map i j h=>exact .map i j (hD i j h)
 | gZ=>exact .gZ
 | fn f fs fs' cs cs' h1 _ h3 _ i1 i2=>exact .fn f fs fs' cs cs' h1 i1 h3 i2
 | iy=>exact .iy
 | ifc t v v' _ ih=>exact .ifc t v v' ih
 | agg cs cs' h _ ih=>exact .agg cs cs' h ih
 | tup cs cs' h _ ih=>exact .tup cs cs' h ih
 | any=>exact .any
theorem pO.mono {D D':B→B→Prop} (hD:∀ i j,D i j→D' i j) {a b:List V} (h:pO D a b):pO D' a b:=⟨h.1,fun i x y hx hy=>(h.2 i x y hx hy).mono hD⟩
theorem dJ.symm {D:B→B→Prop} {a b:V} (h:dJ D a b):dJ (fun i j=>D j i) b a:=by
 induction h with
 | bool b=>exact .bool b
 | int k m=>exact .int k m
 | str l m=>exact .str l m
 | fC=>exact .fC
 | ptr i j off h=>exact .ptr j i off h
 | aj=>exact .aj
 | gq=>exact .gq
 | sl i j sz off len cap h=>exact .sl j i sz off len cap h
 | gU=>exact .gU
 | map i j h=>exact .map j i h
 | gZ=>exact .gZ
 | fn f fs fs' cs cs' h1 _ h3 _ i1 i2=>exact .fn f fs' fs cs' cs h1.symm (fun i a b ha hb=>i1 i b a hb ha) h3.symm (fun i a b ha hb=>i2 i b a hb ha)
 | iy=>exact .iy
 | ifc t v v' _ ih=>exact .ifc t v' v ih
 | agg cs cs' h _ ih=>exact .agg cs' cs h.symm fun i a b ha hb=>ih i b a hb ha
 | tup cs cs' h _ ih=>exact .tup cs' cs h.symm fun i a b ha hb=>ih i b a hb ha
 | any=>exact .any
theorem dX {α β:Type} {l:List α} {l':List β} (h:l.length=l'.length) {i:Nat} {x:α} (hx:l[i]?=some x):∃ y,l'[i]?=some y:=by
 have:=(List.getElem?_eq_some_iff.1 hx).1;exact ⟨_,List.getElem?_eq_getElem (by omega)⟩
theorem dJ.rv {D:B→B→Prop} {g g':Gh} {n n':Nat} (hD:∀ i j,D i j→j.num<n'→g i=g' j∧i.num<n) {a b:V} (h:dJ D a b):∀ x,RV g' n' b x→RV g n a x:=by
 induction h with
 | bool b=>intro x hx;cases hx;exact .bool b
 | int k m=>intro x hx;cases hx;exact .int k m
 | str l m=>intro x hx;cases hx;exact .str _ (by assumption)
 | fC=>intro x hx;cases hx;exact .fC
 | ptr i j off h=>
   intro x hx;cases hx with
   | ptr _ _ h1=>
     obtain ⟨e1,e2⟩:=hD i j h h1;rw [← e1];exact .ptr i off e2
 | aj=>intro x hx;cases hx;exact .aj
 | gq=>intro x hx;cases hx;exact .gq _
 | sl i j sz off len cap h=>
   intro x hx;cases hx with
   | sl _ _ _ _ _ a c h1 h2 h3 h4 h5 h6 h7=>
     obtain ⟨e1,e2⟩:=hD i j h h1;exact .sl i sz off len cap a c e2 h2 h3 h4 h5 (by rw [e1];exact h6) (by rw [e1];exact h7)
 | gU=>intro x hx;cases hx;exact .gU
 | map i j h=>
   intro x hx;cases hx with
   | map _ h1=>
     obtain ⟨e1,e2⟩:=hD i j h h1;rw [← e1];exact .map i e2
 | gZ=>intro x hx;cases hx;exact .gZ
 | fn f fs fs' cs cs' h1 _ h3 _ i1 i2=>
   intro x hx;cases hx with
   | fn _ _ _ vf vc k1 k2 k3 k4=>
     refine .fn f fs cs vf vc (by omega) (fun i c v hc hv=>?_) (by omega) (fun i c v hc hv=>?_)
     ·obtain ⟨y,hy⟩:=dX h1 hc;exact i1 i c y hc hy v (k2 i y v hy hv)
     ·obtain ⟨y,hy⟩:=dX h3 hc;exact i2 i c y hc hy v (k4 i y v hy hv)
 | iy=>intro x hx;cases hx;exact .iy
 | ifc t v v' _ ih=>
   intro x hx;cases hx with
   | ifc _ _ y h=>exact .ifc t v y (ih y h)
 | agg cs cs' h _ ih=>
   intro x hx;cases hx with
   | agg _ vs k1 k2 k3=>exact .agg cs vs (by omega) (fun i c v hc hv=>by obtain ⟨y,hy⟩:=dX h hc;exact ih i c y hc hy v (k2 i y v hy hv)) k3
 | tup cs cs' h _ ih=>
   intro x hx;cases hx with
   | tup _ vs k1 k2=>exact .tup cs vs (by omega) (fun i c v hc hv=>by obtain ⟨y,hy⟩:=dX h hc;exact ih i c y hc hy v (k2 i y v hy hv))
 | any=>intro x _;exact .any x
theorem pO.rvl {D:B→B→Prop} {g g':Gh} {n n':Nat} (hD:∀ i j,D i j→j.num<n'→g i=g' j∧i.num<n) {a b:List V} (h:pO D a b) {us:List Value} (hu:RVL g' n' b us):RVL g n a us:=
 ⟨by rw [hu.1,h.1],fun i c v hc hv=>by obtain ⟨y,hy⟩:=dX h.1 hc;exact (h.2 i c y hc hy).rv hD v (hu.2 i y v hy hv)⟩
inductive wE (T:Nat→TE) (D:B→B→Prop):Obj→Obj→Prop
 | blk (ro:Bool) (sz sz' hi hi':Nat) (cs cs':Tr V):sz≤sz'→(∀ (j:Nat) v,(bOf j).get cs=some v→j<hi∧∃ u,(bOf j).get cs'=some u∧dJ D v u)→wE T D (.blk ro sz hi cs) (.blk ro sz' hi' cs')
 | map (kt:Nat) (es es':List (V×V)):es.length=es'.length→(∀ (i:Nat) e e',es[i]?=some e→es'[i]?=some e'→dJ D e.1 e'.1∧dJ D e.2 e'.2)→((∀ e∈es',bW (T kt) e.1=true)→∀ e∈es,bW (T kt) e.1=true)→wE T D (.map kt es) (.map kt es')
theorem wE.ro {T:Nat→TE} {D:B→B→Prop} {o o':Obj} (h:wE T D o o'):o.ro=o'.ro:=by cases h<;>rfl
theorem wE.XE {T:Nat→TE} {D:B→B→Prop} {g g':Gh} {n n':Nat} (hD:∀ i j,D i j→j.num<n'→g i=g' j∧i.num<n) {o o':Obj} (h:wE T D o o') {id id':B} (hid:g id=g' id') {w:World} (hr:kJ T g' n' w id' o'):kJ T g n w id o:=by
 cases h with
 | blk ro sz sz' hi hi' cs cs' h1 h2=>
   obtain ⟨cur,Tb,fz,k1,k2,k3,k4,k5⟩:=hr;refine ⟨cur,Tb,fz,by rw [hid];exact k1,k2,by rw [hid];exact k3,by rw [hid];omega,fun j v hv=>?_⟩;obtain ⟨e1,u,e2,e3⟩:=h2 j v hv;obtain ⟨_,x,f1,f2,f3⟩:=k5 j u e2;exact ⟨e1,x,by rw [hid];exact f1,e3.rv hD x f2,f3⟩
 | map kt es es' h1 h2 h3=>
   obtain ⟨ents,clock,k1,k2,k3,k4,k5⟩:=hr;refine ⟨ents,clock,by rw [hid];exact k1,by rw [k2,h1],fun i m e hm he=>?_,h3 k4,k5⟩;obtain ⟨e',he'⟩:=dX h1 he;obtain ⟨f1,f2⟩:=h2 i e e' he he';obtain ⟨q1,q2⟩:=k3 i m e' hm he';exact ⟨f1.rv hD _ q1,f2.rv hD _ q2⟩
theorem kJ.stay {T:Nat→TE} {g g':Gh} {n n':Nat} (he:Ext g g' n) (hn:n≤n') {id:B} {w w':World} (hid:g' id=g id) {o:Obj} (hw:w'.heap[(g id).b]?=w.heap[(g id).b]?) (hr:kJ T g n w id o):kJ T g' n' w' id o:=by
 cases o with
 | blk ro sz hi cs=>
   obtain ⟨cur,Tb,fz,k1,k2,k3,k4,k5⟩:=hr;refine ⟨cur,Tb,fz,by rw [hid,hw];exact k1,k2,by rw [hid];exact k3,by rw [hid];exact k4,fun j v hv=>?_⟩;obtain ⟨e1,x,f1,f2,f3⟩:=k5 j v hv;exact ⟨e1,x,by rw [hid];exact f1,f2.mono he hn,f3⟩
 | map kt es=>
   obtain ⟨ents,clock,k1,k2,k3,k4⟩:=hr;refine ⟨ents,clock,by rw [hid,hw];exact k1,k2,fun i m e hm he'=>?_,k4⟩;obtain ⟨q1,q2⟩:=k3 i m e hm he';exact ⟨q1.mono he hn,q2.mono he hn⟩
theorem kJ.lt {T:Nat→TE} {g:Gh} {n:Nat} {w:World} {id:B} {o:Obj} (hr:kJ T g n w id o):(g id).b<w.heap.size:=by
 cases o with
 | blk ro sz hi cs=>obtain ⟨cur,Tb,fz,k1,_⟩:=hr;exact (Array.getElem?_eq_some_iff.1 k1).1
 | map kt es=>obtain ⟨ents,clock,k1,_⟩:=hr;exact (Array.getElem?_eq_some_iff.1 k1).1
def agL:Obj→Prop
 | .blk _ _ hi cs=>∀ (j:Nat) v,(bOf j).get cs=some v→j<hi
 | .map _ _=>True
theorem kJ.hi {T:Nat→TE} {g:Gh} {n:Nat} {w:World} {id:B} {o:Obj} (hr:kJ T g n w id o):agL o:=by
 cases o with
 | blk ro sz hi cs=>obtain ⟨cur,Tb,fz,_,_,_,_,k⟩:=hr;exact fun j v hv=>(k j v hv).1
 | map kt es=>trivial
section
variable {P:Program} {T:Nat→TE} {w0:World} {ng:Nat}
def Ql (nx0 nx nx':Nat) (i j:B):Prop:=nx0≤i.num∧nx≤j.num∧j.num<nx'∧j.num-nx=i.num-nx0
open Classical in
theorem pU.ren {f:Nat} {args0:List V} {t0:Tr Obj} {nx0:B} {v0:V} {t1:Tr Obj} {nx1:B} (hc:pU P T w0 ng f args0 t0 nx0 v0 t1 nx1) (hng:ng≤nx0.num) (h01:nx0.num≤nx1.num)
  {D:B→B→Prop} {args:List V} {t:Tr Obj} {nx:B} {v:V} {t':Tr Obj} {nx':B} (hg:∀ i:B,i.num<ng→D i i) (fun1:∀ i j k,D i j→D i k→j=k) (fun2:∀ i j k,D i k→D j k→i=j) (low:∀ i j,D i j→i.num<nx0.num∧j.num<nx.num)
  (hn':nx'.num=nx.num+(nx1.num-nx0.num))
  (ha:pO D args0 args) (hpre:∀ (i:B) (o:Obj),i.get t0=some o→∃ (j:B) (p:Obj),D i j∧j.get t=some p∧wE T D o p)
  (hv:dJ (fun j i=>D i j∨Ql nx0.num nx.num nx'.num i j) v v0)
  (hpost:∀ (i j:B) (o p:Obj),i.get t0=some o→D i j→j.get t=some p→agL p→j.num<nx.num→∀ p',j.get t'=some p'→∃ o',i.get t1=some o'∧wE T (fun j i=>D i j∨Ql nx0.num nx.num nx'.num i j) p' o')
  (hnew:∀ (j:B) p',nx.num≤j.num→j.get t=none→j.get t'=some p'→j.num<nx'.num∧∃ (i:B) (o':Obj),nx0.num≤i.num∧j.num-nx.num=i.num-nx0.num∧i.get t1=some o'∧wE T (fun j i=>D i j∨Ql nx0.num nx.num nx'.num i j) p' o')
  (hold:∀ j:B,j.num<nx.num→(¬ ∃ (i:B) (o:Obj),i.get t0=some o∧D i j)→j.get t'=j.get t):pU P T w0 ng f args t nx v t' nx':=by
 refine ⟨hc.1,fun g hp w vs h1 h2 h3=>?_⟩;have hngx:=h1.ngx
 let g0:Gh:=fun i=>if h:∃ j,D i j then g (Classical.choose h) else g i
 have hg0:∀ i j,D i j→g0 i=g j:=fun i j h=>by
  have hx:∃ j,D i j:=⟨j,h⟩;show (if h:∃ j,D i j then g (Classical.choose h) else g i)=g j;rw [dif_pos hx,fun1 i _ j (Classical.choose_spec hx) h]
 have hDp:∀ i j,D i j→j.num<nx.num→g0 i=g j∧i.num<nx0.num:=fun i j h _=>⟨hg0 i j h,(low i j h).1⟩
 have hpn:∀ (j:B) (p:Obj),j.get t=some p→j.num<nx.num∧kJ T g nx.num w j p:=fun j p h=>h1.obj j p (h2 j p h)
 have hr0:HR T w0 ng g0 (fun i=>i.get t0) nx0 w:=by
  refine ⟨h1.os,h1.tape,h1.output,h1.size,h1.old,fun i o ho=>?_,fun i i' o o' ho ho' hne hro=>?_,fun i o ho hro=>?_,fun k hk=>?_,hng⟩
  ·obtain ⟨j,p,d1,d2,d3⟩:=hpre i o ho;exact ⟨(low i j d1).1,d3.XE hDp (hg0 i j d1) (hpn j p d2).2⟩
  ·obtain ⟨j,p,d1,d2,d3⟩:=hpre i o ho;obtain ⟨j',p',d1',d2',d3'⟩:=hpre i' o' ho';rw [hg0 i j d1,hg0 i' j' d1'];exact h1.sep j j' p p' (h2 j p d2) (h2 j' p' d2') (fun e=>hne (by subst e;exact fun2 i i' j d1 d1')) (by rw [← d3.ro];exact hro)
  ·obtain ⟨j,p,d1,d2,d3⟩:=hpre i o ho;rw [hg0 i j d1];exact h1.new j p (h2 j p d2) (by rw [← d3.ro];exact hro)
  ·rw [hg0 (bOf k) (bOf k) (hg _ hk)];exact h1.glob k hk
 refine (hc.2 g0 _ w vs hr0 (fun i o h=>h) (ha.rvl hDp h3)).mono fun e w' ⟨g1,hp1,val,he,st,hval⟩=>?_
 let R:B→Prop:=fun j=>∃ (i:B) (o:Obj),i.get t0=some o∧D i j
 let g':Gh:=fun j=>if j.num<nx.num then g j else g1 ⟨nx0.num+(j.num-nx.num)⟩
 let hp':B→Option Obj:=fun j=>if R j∨nx.num≤j.num then j.get t' else hp j
 have gold:∀ j:B,j.num<nx.num→g' j=g j:=fun j hj=>if_pos hj
 have gnew:∀ j i:B,nx.num≤j.num→nx0.num≤i.num→j.num-nx.num=i.num-nx0.num→g' j=g1 i:=fun j i h1 h2 h3=>by
  show (if j.num<nx.num then g j else g1 ⟨nx0.num+(j.num-nx.num)⟩)=g1 i;rw [if_neg (by omega)];congr 1;exact B.eG (by show nx0.num+(j.num-nx.num)=i.num;omega)
 have gD:∀ i j,D i j→g' j=g1 i:=fun i j h=>by
  obtain ⟨l1,l2⟩:=low i j h;rw [gold j l2,← hg0 i j h,st.ext i l1]
 have hE:∀ j i:B,(D i j∨Ql nx0.num nx.num nx'.num i j)→i.num<nx1.num→g' j=g1 i∧j.num<nx'.num:=fun j i h hi=>by
  rcases h with h | ⟨a1,a2,a3,a4⟩
  ·have:=(low i j h).2;exact ⟨gD i j h,by omega⟩
  ·exact ⟨gnew j i a2 a1 a4,a3⟩
 have cases':∀ j o,hp' j=some o→(∃ (i:B) (o':Obj),i.get t1=some o'∧wE T (fun j i=>D i j∨Ql nx0.num nx.num nx'.num i j) o o'∧g' j=g1 i∧j.num<nx'.num∧j.get t'=some o∧((∃ o0:Obj,i.get t0=some o0∧D i j)∨(nx0.num≤i.num∧nx.num≤j.num∧j.num-nx.num=i.num-nx0.num))) ∨
   (¬ R j∧j.num<nx.num∧hp j=some o):=fun j o ho=>by
  by_cases hR:R j
  ·have ho':j.get t'=some o:=by
    have:hp' j=j.get t':=if_pos (.inl hR);rw [← this];exact ho
   obtain ⟨i,o0,r1,r2⟩:=hR;obtain ⟨j2,p,d1,d2,d3⟩:=hpre i o0 r1;have:=fun1 i j2 j d1 r2;subst this;obtain ⟨q1,q2⟩:=hpn j2 p d2;obtain ⟨o',e1,e2⟩:=hpost i j2 o0 p r1 r2 d2 q2.hi q1 o ho';exact .inl ⟨i,o',e1,e2,gD i j2 r2,by omega,ho',.inl ⟨o0,r1,r2⟩⟩
  ·by_cases hj:nx.num≤j.num
   ·have ho':j.get t'=some o:=by
     have:hp' j=j.get t':=if_pos (.inr hj);rw [← this];exact ho
    have hjn:j.get t=none:=by
     cases hjt:j.get t with
     | none=>rfl
     | some p=>exact absurd (hpn j p hjt).1 (by omega)
    obtain ⟨l,i,o',a1,a2,a3,a4⟩:=hnew j o hj hjn ho';exact .inl ⟨i,o',a3,a4,gnew j i hj a1 a2,l,ho',.inr ⟨a1,hj,a2⟩⟩
   ·have ho':hp j=some o:=by
     have:hp' j=hp j:=if_neg (fun h=>h.elim hR hj);rw [← this];exact ho
    exact .inr ⟨hR,by omega,ho'⟩
 have apart:∀ j o,¬ R j→hp j=some o→∀ (i:B) (o0:Obj),i.get t0=some o0→o0.ro=false→(g0 i).b≠(g j).b:=fun j o hR ho i o0 hi hro=>by
  obtain ⟨j2,p,d1,d2,d3⟩:=hpre i o0 hi;rw [hg0 i j2 d1];exact h1.sep j2 j p o (h2 j2 p d2) ho (fun e=>hR ⟨i,o0,hi,by rw [← e];exact d1⟩) (by rw [← d3.ro];exact hro)
 have stays:∀ j o,¬ R j→j.num<nx.num→hp j=some o→w'.heap[(g j).b]?=w.heap[(g j).b]?:=fun j o hR hj ho=>
  st.un _ (h1.obj j o ho).2.lt fun i o0 hi hro=>apart j o hR ho i o0 hi hro
 have hext:Ext g g' nx.num:=gold;have hle:nx.num≤nx'.num:=by omega
 refine ⟨g',hp',val,he,⟨hext,hle,⟨st.hr.os,st.hr.tape,st.hr.output,st.hr.size,st.hr.old,fun j o ho=>?_,fun j j' o o' ho ho' hne hro=>?_,fun j o ho hro=>?_,fun k hk=>?_,by omega⟩,fun j o ho=>?_,fun j hj hn=>?_,fun j hj hn=>?_,st.sz,st.dr,fun b hb hun=>?_,fun j o ho hro=>?_,fun j o ho hj=>?_⟩,hv.rv hE val hval⟩
 ·
  rcases cases' j o ho with ⟨i,o',e1,e2,e3,e4,_,_⟩ | ⟨hR,hj,hho⟩
  ·exact ⟨e4,e2.XE hE e3 (st.hr.obj i o' (st.sub i o' e1)).2⟩
  ·exact ⟨by omega,(h1.obj j o hho).2.stay hext hle (gold j hj) (stays j o hR hj hho)⟩
 ·
  rcases cases' j o ho with ⟨i,p,e1,e2,e3,e4,e5,e6⟩ | ⟨hR,hj,hho⟩
  ·have hro1:p.ro=false:=(by rw [← e2.ro];exact hro);rcases cases' j' o' ho' with ⟨i',p',f1,f2,f3,f4,f5,f6⟩ | ⟨hR',hj',hho'⟩
   ·rw [e3,f3];refine st.hr.sep i i' p p' (st.sub i p e1) (st.sub i' p' f1) (fun e=>hne ?_) hro1;subst e;rcases e6 with ⟨o0,a1,a2⟩ | ⟨a1,a2,a3⟩
    ·rcases f6 with ⟨o0',b1,b2⟩ | ⟨b1,b2,b3⟩
     ·exact fun1 i j j' a2 b2
     ·exact absurd (low i j a2).1 (by omega)
    ·rcases f6 with ⟨o0',b1,b2⟩ | ⟨b1,b2,b3⟩
     ·exact absurd (low i j' b2).1 (by omega)
     ·exact B.eG (by omega)
   ·rw [e3,gold j' hj'];rcases st.pl i p e1 hro1 with q | ⟨i2,o2,q1,q2,q3⟩
    ·have:=(h1.obj j' o' hho').2.lt;omega
    ·rw [← q3];exact apart j' o' hR' hho' i2 o2 q1 q2
  ·rw [gold j hj];rcases cases' j' o' ho' with ⟨i',p',f1,f2,f3,f4,f5,f6⟩ | ⟨hR',hj',hho'⟩
   ·rw [f3];rcases f6 with ⟨o0,a1,a2⟩ | ⟨a1,a2,a3⟩
    ·obtain ⟨j2,q,d1,d2,d3⟩:=hpre i' o0 a1;have:=fun1 i' j2 j' d1 a2;subst this;rw [← gD i' j2 d1,gold j2 (low i' j2 d1).2];exact h1.sep j j2 o q hho (h2 j2 q d2) hne hro
    ·rcases st.pl2 i' p' (st.sub i' p' f1) a1 with q | ⟨i2,o2,q1,q2⟩
     ·have:=(h1.obj j o hho).2.lt;omega
     ·obtain ⟨j2,q,d1,d2,d3⟩:=hpre i2 o2 q1;rw [← q2,hg0 i2 j2 d1];exact h1.sep j j2 o q hho (h2 j2 q d2) (fun e=>hR ⟨i2,o2,q1,by rw [e];exact d1⟩) hro
   ·rw [gold j' hj'];exact h1.sep j j' o o' hho hho' hne hro
 ·
  rcases cases' j o ho with ⟨i,p,e1,e2,e3,e4,e5,e6⟩ | ⟨hR,hj,hho⟩
  ·rw [e3];exact st.hr.new i p (st.sub i p e1) (by rw [← e2.ro];exact hro)
  ·rw [gold j hj];exact h1.new j o hho hro
 ·rw [gold (bOf k) (by show k<nx.num;omega)];exact h1.glob k hk
 ·
  by_cases hR:R j∨nx.num≤j.num
  ·show (if R j∨nx.num≤j.num then j.get t' else hp j)=some o;rw [if_pos hR];exact ho
  ·show (if R j∨nx.num≤j.num then j.get t' else hp j)=some o;rw [if_neg hR];rw [hold j (by omega) (fun h=>hR (.inl h))] at ho;exact h2 j o ho
 ·
  have hR:¬ R j:=fun ⟨i,o0,r1,r2⟩=>by
   obtain ⟨j2,p,d1,d2,d3⟩:=hpre i o0 r1;have:=fun1 i j2 j d1 r2;subst this;rw [hn] at d2;cases d2
  show (if R j∨nx.num≤j.num then j.get t' else hp j)=hp j;rw [if_neg (fun h=>h.elim hR (by omega))]
 ·have hR:¬ R j:=fun ⟨i,o0,r1,r2⟩=>by
   obtain ⟨j2,p,d1,d2,d3⟩:=hpre i o0 r1;have:=fun1 i j2 j d1 r2;subst this;rw [hn] at d2;cases d2
  rw [hold j hj hR];exact hn
 ·refine st.un b hb fun i o0 hi hro=>?_
  obtain ⟨j,p,d1,d2,d3⟩:=hpre i o0 hi;rw [hg0 i j d1];exact hun j p d2 (by rw [← d3.ro];exact hro)
 ·by_cases hR:R j∨nx.num≤j.num
  ·have hpj:hp' j=some o:=by
    show (if R j∨nx.num≤j.num then j.get t' else hp j)=some o;rw [if_pos hR];exact ho
   rcases cases' j o hpj with ⟨i,p,e1,e2,e3,e4,e5,e6⟩ | ⟨hR',hj,hho⟩
   ·rw [e3];rcases st.pl i p e1 (by rw [← e2.ro];exact hro) with q | ⟨i2,o2,q1,q2,q3⟩
    ·exact .inl q
    ·obtain ⟨j2,q,d1,d2,d3⟩:=hpre i2 o2 q1;exact .inr ⟨j2,q,d2,by rw [← d3.ro];exact q2,by rw [← q3,hg0 i2 j2 d1]⟩
   ·exact absurd hR (fun h=>h.elim hR' (by omega))
  ·rw [hold j (by omega) (fun h=>hR (.inl h))] at ho;exact .inr ⟨j,o,ho,hro,by rw [gold j (by omega)]⟩
 ·rcases cases' j o ho with ⟨i,p,e1,e2,e3,e4,e5,e6⟩ | ⟨hR',hj',hho⟩
  ·rw [e3];rcases e6 with ⟨o0,a1,a2⟩ | ⟨a1,a2,a3⟩
   ·exact absurd (low i j a2).2 (by omega)
   ·rcases st.pl2 i p (st.sub i p e1) a1 with q | ⟨i2,o2,q1,q2⟩
    ·exact .inl q
    ·obtain ⟨j2,q,d1,d2,d3⟩:=hpre i2 o2 q1;exact .inr ⟨j2,q,d2,by rw [← q2,hg0 i2 j2 d1]⟩
  ·omega
end
inductive FO where
 | blk (ro:Bool) (sz:Nat) (cs:List V)
 | map (kt:Nat) (es:List (V×V))
structure Fact where
 args:List V
 pre:List (Nat×FO)
 m:Nat
 v:V
 gone:List Nat
 same:List Nat
 post:List (Nat×FO)
 n:Nat
noncomputable def FO.obj:FO→Obj
 | .blk ro sz cs => .blk ro sz cs.length (fB cs .lf 0)
 | .map kt es => .map kt es
noncomputable def aev {R:Type} (fo:FO) (K:Obj→R):R:=match fo with
 | .blk ro sz cs=>l9 cs .lf 0 fun tr=>aT cs.length fun h=>K (.blk ro sz h tr)
 | .map kt es=>K (.map kt es)
theorem XF {R:Type} (fo:FO) (K:Obj→R):aev fo K=K fo.obj:=by
 cases fo with
 | blk ro sz cs=>show l9 cs .lf 0 _=_;rw [dS,aI];rfl
 | map kt es=>rfl
noncomputable def Qh {R:Type} (l:List (Nat×FO)):Tr Obj→(Tr Obj→R)→R:=
 List.rec (motive:=fun _=>Tr Obj→(Tr Obj→R)→R) (fun t K=>K t) (fun x _ ih t K=>aev x.2 fun o=>(bOf x.1).jv t (some o) fun t=>ih t K) l
noncomputable def eY:List (Nat×FO)→Tr Obj→Tr Obj
 | [],t=>t
 | x::l,t=>eY l ((bOf x.1).put t (some x.2.obj))
theorem tK {R:Type}:∀ (l:List (Nat×FO)) (t:Tr Obj) (K:Tr Obj→R),Qh l t K=K (eY l t)
 | [],_,_=>rfl
 | x::l,t,K=>by
   show aev x.2 (fun o=>(bOf x.1).jv t (some o) fun t=>Qh l t K)=_;rw [XF,B.eu,tK l];rfl
theorem tJ:∀ (l:List (Nat×FO)) (t:Tr Obj) (i:B) (o:Obj),i.get (eY l t)=some o→(∃ fo,(i.num,fo)∈l∧o=fo.obj)∨i.get t=some o
 | [],_,_,_,h => .inr h
 | x::l,t,i,o,h=>by
   rcases tJ l _ i o h with ⟨fo,h1,h2⟩ | h3
   ·exact .inl ⟨fo,List.mem_cons_of_mem _ h1,h2⟩
   ·rw [B.get_put] at h3;split at h3
    ·rename_i e;subst e;exact .inl ⟨x.2,List.mem_cons_self,(Option.some.inj h3).symm⟩
    ·exact .inr h3
theorem Cb:∀ (l:List (Nat×FO)) (t:Tr Obj) (i:B),(i.get t).isSome∨(∃ fo,(i.num,fo)∈l)→(i.get (eY l t)).isSome
 | [],_,_,h=>h.elim id fun ⟨_,h⟩=>by cases h
 | x::l,t,i,h=>by
   refine Cb l _ i ?_;rw [B.get_put];by_cases e:i=bOf x.1
   ·left;rw [if_pos e];rfl
   ·rw [if_neg e];rcases h with h | ⟨fo,h⟩
    ·exact .inl h
    ·rcases List.mem_cons.1 h with h | h
     ·exact absurd (B.eG (show i.num=x.1 from by rw [← h])) e
     ·exact .inr ⟨fo,h⟩
abbrev KU (R:Type):=Tr B→Tr B→R
noncomputable def bK {R:Type} (o:Option B) (K:B→R) (e:R):R:=Option.rec (motive:=fun _=>(B→R)→R→R) (fun _ e=>e) (fun v K _=>K v) o K e
theorem PG {R:Type} (o:Option B) (K:B→R) (e:R):bK o K e=match o with | some j=>K j | none=>e:=by cases o<;>rfl
noncomputable def uI {R:Type} (ng m nx:Nat) (i j:B) (ρ σ:Tr B) (K:KU R) (e:R):R:=
 aJ (Nat.blt i.n ng) (aJ (Nat.beq i.n j.n) (K ρ σ) e)
  (bK (i.get ρ) (fun j'=>aJ (Nat.beq j'.n j.n) (K ρ σ) e)
   (aJ (and (and (Nat.blt i.n m) (Nat.ble ng j.n)) (Nat.blt j.n nx)) (bK (j.get σ) (fun _=>e) (i.jv ρ (some j) fun ρ=>j.jv σ (some i) fun σ=>K ρ σ)) e))
noncomputable def uL {R:Type} (u:V→V→Tr B→Tr B→KU R→R→R) (a:List V):List V→Tr B→Tr B→KU R→R→R:=
 List.rec (motive:=fun _=>List V→Tr B→Tr B→KU R→R→R) (fun b ρ σ K e=>match b with | []=>K ρ σ | _=>e)
  (fun x _ ih b ρ σ K e=>match b with | y::ys=>u x y ρ σ (fun ρ σ=>ih ys ρ σ K e) e | []=>e) a
noncomputable def uV {R:Type} (ng m nx:Nat):Nat→V→V→Tr B→Tr B→KU R→R→R
 | 0,_,_,_,_,_,e=>e
 | d+1,a,b,ρ,σ,K,e=>match a,b with
   | .bool x,.bool y=>aJ (qI x y) (K ρ σ) e
   | .int k x,.int k' y=>aJ (and (Nat.beq (ikN k) (ikN k')) (eqI x y)) (K ρ σ) e
   | .str l x,.str l' y=>aJ (strEq l x l' y) (K ρ σ) e
   | .fC,.fC=>K ρ σ
   | .ptr i o,.ptr j o'=>aJ (Nat.beq o o') (uI ng m nx i j ρ σ K e) e
   | .aj,.aj=>K ρ σ
   | .gq,.gq=>K ρ σ
   | .sl i sz o l c,.sl j sz' o' l' c'=>aJ (and (and (Nat.beq sz sz') (Nat.beq o o')) (and (Nat.beq l l') (eqO c c'))) (uI ng m nx i j ρ σ K e) e
   | .gU,.gU=>K ρ σ
   | .map i,.map j=>uI ng m nx i j ρ σ K e
   | .gZ,.gZ=>K ρ σ
   | .fn f fs cs,.fn f' fs' cs'=>aJ (Nat.beq f f') (uL (uV ng m nx d) fs fs' ρ σ (fun ρ σ=>uL (uV ng m nx d) cs cs' ρ σ K e) e) e
   | .iy,.iy=>K ρ σ
   | .ifc t v,.ifc t' v'=>aJ (Nat.beq t t') (uV ng m nx d v v' ρ σ K e) e
   | .agg cs,.agg cs'=>uL (uV ng m nx d) cs cs' ρ σ K e
   | .tup cs,.tup cs'=>uL (uV ng m nx d) cs cs' ρ σ K e
   | .any,.any=>K ρ σ
   | _,_=>e
structure UI (ng m nx:Nat) (ρ σ:Tr B):Prop where
 to:∀ i j:B,i.get ρ=some j→j.get σ=some i∧ng≤i.num∧i.num<m∧ng≤j.num∧j.num<nx
 back:∀ i j:B,j.get σ=some i→i.get ρ=some j
def Dof (ng:Nat) (ρ:Tr B) (i j:B):Prop:=(i.num<ng∧i=j)∨(ng≤i.num∧i.get ρ=some j)
def XtR (ρ ρ':Tr B):Prop:=∀ i j:B,i.get ρ=some j→i.get ρ'=some j
theorem Dof.mono {ng:Nat} {ρ ρ':Tr B} (h:XtR ρ ρ') {i j:B} (hd:Dof ng ρ i j):Dof ng ρ' i j:=hd.imp id fun ⟨h1,h2⟩=>⟨h1,h i j h2⟩
def Gives {R:Type} (ng m nx:Nat) (ρ σ:Tr B) (K:KU R) (r:R) (Q:Tr B→Prop):Prop:=∃ ρ' σ',K ρ' σ'=r∧UI ng m nx ρ' σ'∧XtR ρ ρ'∧Q ρ'
theorem Gives.here {R:Type} {ng m nx:Nat} {ρ σ:Tr B} {K:KU R} {r:R} {Q:Tr B→Prop} (h:K ρ σ=r) (hu:UI ng m nx ρ σ) (hq:Q ρ):Gives ng m nx ρ σ K r Q:=⟨ρ,σ,h,hu,fun _ _ h=>h,hq⟩
theorem Ri {R:Type} {ng m nx:Nat} {i j:B} {ρ σ:Tr B} {K:KU R} {e r:R} (h:uI ng m nx i j ρ σ K e=r) (he:e≠r) (hu:UI ng m nx ρ σ):Gives ng m nx ρ σ K r fun ρ=>Dof ng ρ i j:=by
 unfold uI at h;rw [aQ] at h;split at h
 ·rename_i h1;obtain ⟨h2,h3⟩:=aG h he;exact .here h3 hu (.inl ⟨aN.1 h1,B.eG (beq_iff.1 h2)⟩)
 ·rename_i h1;have h1:ng≤i.num:=by
   have:¬ i.n<ng:=fun h'=>h1 (aN.2 h')
   exact Nat.not_lt.1 this
  rw [PG] at h;split at h
  ·rename_i j' hj;obtain ⟨h2,h3⟩:=aG h he;have:j'=j:=B.eG (beq_iff.1 h2);subst this;exact .here h3 hu (.inr ⟨h1,hj⟩)
  ·rename_i hj;obtain ⟨h2,h3⟩:=aG h he;obtain ⟨h4,h5⟩:=aB h2;obtain ⟨h6,h7⟩:=aB h4;have h5:j.num<nx:=aN.1 h5;have h6:i.num<m:=aN.1 h6;have h7:ng≤j.num:=aY.1 h7;rw [PG] at h3;split at h3
   ·exact absurd h3 he
   ·rename_i hs;rw [B.eu,B.eu] at h3;refine ⟨_,_,h3,⟨fun a b hab=>?_,fun a b hab=>?_⟩,fun a b hab=>?_,.inr ⟨h1,by rw [B.get_put,if_pos rfl]⟩⟩
    ·rw [B.get_put] at hab;split at hab
     ·rename_i e1;cases hab;subst e1;exact ⟨by rw [B.get_put,if_pos rfl],h1,h6,h7,h5⟩
     ·obtain ⟨q1,q2⟩:=hu.to a b hab;refine ⟨?_,q2⟩;rw [B.get_put,if_neg (fun e1=>by subst e1;rw [hs] at q1;cases q1)];exact q1
    ·rw [B.get_put] at hab;split at hab
     ·rename_i e1;cases hab;subst e1;rw [B.get_put,if_pos rfl]
     ·have q:=hu.back a b hab;rw [B.get_put,if_neg (fun e1=>by subst e1;rw [hj] at q;cases q)];exact q
    ·rw [B.get_put,if_neg (fun e1=>by subst e1;rw [hj] at hab;cases hab)];exact hab
def wC (R:Type) (ng m nx:Nat) (u:V→V→Tr B→Tr B→KU R→R→R):Prop:=∀ a b ρ σ K e r,u a b ρ σ K e=r→e≠r→UI ng m nx ρ σ→Gives ng m nx ρ σ K r fun ρ=>dJ (Dof ng ρ) a b
theorem Bv {R:Type} {ng m nx:Nat} {u:V→V→Tr B→Tr B→KU R→R→R} (hu:wC R ng m nx u):∀ (a b:List V) (ρ σ:Tr B) (K:KU R) (e r:R),uL u a b ρ σ K e=r→e≠r→UI ng m nx ρ σ→Gives ng m nx ρ σ K r fun ρ=>pO (Dof ng ρ) a b
 | [],[],ρ,σ,K,e,r,h,_,hi => .here h hi .nil
 | [],_::_,ρ,σ,K,e,r,h,he,_=>absurd h he
 | _::_,[],ρ,σ,K,e,r,h,he,_=>absurd h he
 | x::a,y::b,ρ,σ,K,e,r,h,he,hi=>by
   have h':u x y ρ σ (fun ρ σ=>uL u a b ρ σ K e) e=r:=h;obtain ⟨ρ1,σ1,k1,k2,k3,k4⟩:=hu x y ρ σ _ e r h' he hi;obtain ⟨ρ2,σ2,k5,k6,k7,k8⟩:=Bv hu a b ρ1 σ1 K e r k1 he k2;exact ⟨ρ2,σ2,k5,k6,fun i j hij=>k7 i j (k3 i j hij),.cons (k4.mono fun i j hd=>hd.mono k7) k8⟩
theorem Bz {l x l' y:Nat} (h:strEq l x l' y=true):l=l'∧x=y:=by
 obtain ⟨h1,h2⟩:=aB h;exact ⟨beq_iff.1 h1,beq_iff.1 h2⟩
theorem Rf {R:Type} {ng m nx:Nat}:∀ d,wC R ng m nx (uV ng m nx d)
 | 0=>fun a b ρ σ K e r h he _=>absurd h he
 | d+1=>fun a b ρ σ K e r h he hi=>by
   have ih:=Rf (R:=R) (ng:=ng) (m:=m) (nx:=nx) d;unfold uV at h;split at h
   ·obtain ⟨h1,h2⟩:=aG h he;have:=kG.1 h1;subst this;exact .here h2 hi (.bool _)
   ·obtain ⟨h1,h2⟩:=aG h he;obtain ⟨h3,h4⟩:=aB h1;have:=jI h3;subst this;have:=Fq h4;subst this;exact .here h2 hi (.int _ _)
   ·obtain ⟨h1,h2⟩:=aG h he;obtain ⟨rfl,rfl⟩:=Bz h1;exact .here h2 hi (.str _ _)
   ·exact .here h hi .fC
   ·obtain ⟨h1,h2⟩:=aG h he;have:=beq_iff.1 h1;subst this;obtain ⟨ρ',σ',k1,k2,k3,k4⟩:=Ri h2 he hi;exact ⟨ρ',σ',k1,k2,k3,.ptr _ _ _ k4⟩
   ·exact .here h hi .aj
   ·exact .here h hi .gq
   ·obtain ⟨h1,h2⟩:=aG h he;obtain ⟨h3,h4⟩:=aB h1;obtain ⟨h5,h6⟩:=aB h3;obtain ⟨h7,h8⟩:=aB h4;have:=beq_iff.1 h5;subst this;have:=beq_iff.1 h6;subst this;have:=beq_iff.1 h7;subst this;have:=Fp h8;subst this;obtain ⟨ρ',σ',k1,k2,k3,k4⟩:=Ri h2 he hi;exact ⟨ρ',σ',k1,k2,k3,.sl _ _ _ _ _ _ k4⟩
   ·exact .here h hi .gU
   ·obtain ⟨ρ',σ',k1,k2,k3,k4⟩:=Ri h he hi;exact ⟨ρ',σ',k1,k2,k3,.map _ _ k4⟩
   ·exact .here h hi .gZ
   ·obtain ⟨h1,h2⟩:=aG h he;have:=beq_iff.1 h1;subst this;obtain ⟨ρ1,σ1,k1,k2,k3,k4⟩:=Bv ih _ _ _ _ _ _ _ h2 he hi;obtain ⟨ρ2,σ2,k5,k6,k7,k8⟩:=Bv ih _ _ _ _ _ _ _ k1 he k2;have k4:=k4.mono fun i j (hd:Dof ng ρ1 i j)=>hd.mono k7
    exact ⟨ρ2,σ2,k5,k6,fun i j hij=>k7 i j (k3 i j hij),.fn _ _ _ _ _ k4.1 k4.2 k8.1 k8.2⟩
   ·exact .here h hi .iy
   ·obtain ⟨h1,h2⟩:=aG h he;have:=beq_iff.1 h1;subst this;obtain ⟨ρ1,σ1,k1,k2,k3,k4⟩:=ih _ _ _ _ _ _ _ h2 he hi;exact ⟨ρ1,σ1,k1,k2,k3,.ifc _ _ _ k4⟩
   ·obtain ⟨ρ1,σ1,k1,k2,k3,k4⟩:=Bv ih _ _ _ _ _ _ _ h he hi;exact ⟨ρ1,σ1,k1,k2,k3,.agg _ _ k4.1 k4.2⟩
   ·obtain ⟨ρ1,σ1,k1,k2,k3,k4⟩:=Bv ih _ _ _ _ _ _ _ h he hi;exact ⟨ρ1,σ1,k1,k2,k3,.tup _ _ k4.1 k4.2⟩
   ·exact .here h hi .any
   ·exact absurd h he
inductive UO (D:B→B→Prop):FO→Obj→Prop
 | blk (ro:Bool) (sz:Nat) (cs:List V) (cs':Tr V):(∀ (j:Nat) a,cs[j]?=some a→∃ b,(bOf j).get cs'=some b∧dJ D a b)→UO D (.blk ro sz cs) (.blk ro sz cs.length cs')
 | map (kt:Nat) (es es':List (V×V)):es.length=es'.length→(∀ (i:Nat) e e',es[i]?=some e→es'[i]?=some e'→dJ D e.1 e'.1∧dJ D e.2 e'.2)→UO D (.map kt es) (.map kt es')
theorem UO.mono {D D':B→B→Prop} (hD:∀ i j,D i j→D' i j) {fo:FO} {o:Obj} (h:UO D fo o):UO D' fo o:=by
 cases h with
 | blk ro sz cs cs' h=>exact .blk ro sz cs cs' fun j a ha=>by obtain ⟨b,h1,h2⟩:=h j a ha;exact ⟨b,h1,h2.mono hD⟩
 | map kt es es' h1 h2=>exact .map kt es es' h1 fun i e e' he he'=>by obtain ⟨a,b⟩:=h2 i e e' he he';exact ⟨a.mono hD,b.mono hD⟩
noncomputable def uCs {R:Type} (u:V→V→Tr B→Tr B→KU R→R→R) (cs':Tr V) (cs:List V):Nat→Tr B→Tr B→KU R→R→R:=
 List.rec (motive:=fun _=>Nat→Tr B→Tr B→KU R→R→R) (fun _ ρ σ K _=>K ρ σ)
  (fun x _ ih off ρ σ K e=>Option.rec (motive:=fun _=>R) e (fun y=>u x y ρ σ (fun ρ σ=>ih (Nat.succ off) ρ σ K e) e) ((bOf off).get cs')) cs
noncomputable def uEs {R:Type} (u:V→V→Tr B→Tr B→KU R→R→R) (es:List (V×V)):List (V×V)→Tr B→Tr B→KU R→R→R:=
 List.rec (motive:=fun _=>List (V×V)→Tr B→Tr B→KU R→R→R) (fun b ρ σ K e=>match b with | []=>K ρ σ | _=>e)
  (fun x _ ih b ρ σ K e=>match b with | y::ys=>u x.1 y.1 ρ σ (fun ρ σ=>u x.2 y.2 ρ σ (fun ρ σ=>ih ys ρ σ K e) e) e | []=>e) es
noncomputable def uO {R:Type} (u:V→V→Tr B→Tr B→KU R→R→R) (fo:FO) (o:Obj) (ρ σ:Tr B) (K:KU R) (e:R):R:=match fo,o with
 | .blk ro sz cs,.blk ro' sz' hi cs'=>aJ (and (qI ro ro') (and (Nat.beq sz sz') (Nat.beq cs.length hi))) (uCs u cs' cs 0 ρ σ K e) e
 | .map kt es,.map kt' es'=>aJ (Nat.beq kt kt') (uEs u es es' ρ σ K e) e
 | _,_=>e
noncomputable def uOs {R:Type} (u:V→V→Tr B→Tr B→KU R→R→R) (ng:Nat) (t:Tr Obj) (l:List (Nat×FO)):Tr B→Tr B→KU R→R→R:=
 List.rec (motive:=fun _=>Tr B→Tr B→KU R→R→R) (fun ρ σ K _=>K ρ σ)
  (fun x _ ih ρ σ K e=>aJ (Nat.blt x.1 ng) (Option.rec (motive:=fun _=>R) e (fun o=>uO u x.2 o ρ σ (fun ρ σ=>ih ρ σ K e) e) ((bOf x.1).get t))
   (bK ((bOf x.1).get ρ) (fun j=>Option.rec (motive:=fun _=>R) e (fun o=>uO u x.2 o ρ σ (fun ρ σ=>ih ρ σ K e) e) (j.get t)) e)) l
theorem Rk {R:Type} {ng m nx:Nat} {u:V→V→Tr B→Tr B→KU R→R→R} (hu:wC R ng m nx u) {cs':Tr V}:∀ (cs:List V) (off:Nat) (ρ σ:Tr B) (K:KU R) (e r:R),uCs u cs' cs off ρ σ K e=r→e≠r→UI ng m nx ρ σ →
  Gives ng m nx ρ σ K r fun ρ=>∀ (j:Nat) a,cs[j]?=some a→∃ b,(bOf (off+j)).get cs'=some b∧dJ (Dof ng ρ) a b
 | [],off,ρ,σ,K,e,r,h,_,hi => .here h hi fun j a ha=>by simp at ha
 | x::cs,off,ρ,σ,K,e,r,h,he,hi=>by
   have h':Option.rec (motive:=fun _=>R) e (fun y=>u x y ρ σ (fun ρ σ=>uCs u cs' cs (off+1) ρ σ K e) e) ((bOf off).get cs')=r:=h;cases hg:(bOf off).get cs' with
   | none=>rw [hg] at h';exact absurd h' he
   | some y=>
     rw [hg] at h';obtain ⟨ρ1,σ1,k1,k2,k3,k4⟩:=hu x y ρ σ _ e r h' he hi;obtain ⟨ρ2,σ2,k5,k6,k7,k8⟩:=Rk hu cs (off+1) ρ1 σ1 K e r k1 he k2;refine ⟨ρ2,σ2,k5,k6,fun i j hij=>k7 i j (k3 i j hij),fun j a ha=>?_⟩;cases j with
     | zero=>simp at ha;subst ha;exact ⟨y,hg,k4.mono fun i j hd=>hd.mono k7⟩
     | succ j=>
       simp at ha;obtain ⟨b,q1,q2⟩:=k8 j a ha;exact ⟨b,by rw [← q1];congr 2;omega,q2⟩
theorem Rj {R:Type} {ng m nx:Nat} {u:V→V→Tr B→Tr B→KU R→R→R} (hu:wC R ng m nx u):∀ (es es':List (V×V)) (ρ σ:Tr B) (K:KU R) (e r:R),uEs u es es' ρ σ K e=r→e≠r→UI ng m nx ρ σ →
  Gives ng m nx ρ σ K r fun ρ=>es.length=es'.length∧∀ (i:Nat) e e',es[i]?=some e→es'[i]?=some e'→dJ (Dof ng ρ) e.1 e'.1∧dJ (Dof ng ρ) e.2 e'.2
 | [],[],ρ,σ,K,e,r,h,_,hi => .here h hi ⟨rfl,fun i e e' he=>by simp at he⟩
 | [],_::_,ρ,σ,K,e,r,h,he,_=>absurd h he
 | _::_,[],ρ,σ,K,e,r,h,he,_=>absurd h he
 | x::es,y::es',ρ,σ,K,e,r,h,he,hi=>by
   have h':u x.1 y.1 ρ σ (fun ρ σ=>u x.2 y.2 ρ σ (fun ρ σ=>uEs u es es' ρ σ K e) e) e=r:=h;obtain ⟨ρ0,σ0,k1,k2,k3,k4⟩:=hu _ _ ρ σ _ e r h' he hi;obtain ⟨ρ1,σ1,l1,l2,l3,l4⟩:=hu _ _ ρ0 σ0 _ e r k1 he k2;obtain ⟨ρ2,σ2,k5,k6,k7,k8,k9⟩:=Rj hu es es' ρ1 σ1 K e r l1 he l2;refine ⟨ρ2,σ2,k5,k6,fun i j hij=>k7 i j (l3 i j (k3 i j hij)),by simp [k8],fun i a b ha hb=>?_⟩;cases i with
   | zero=>
     simp at ha hb;subst ha;subst hb;exact ⟨k4.mono fun i j hd=>(hd.mono l3).mono k7,l4.mono fun i j hd=>hd.mono k7⟩
   | succ i=>simp at ha hb;exact k9 i a b ha hb
theorem agT {R:Type} {ng m nx:Nat} {u:V→V→Tr B→Tr B→KU R→R→R} (hu:wC R ng m nx u) {fo:FO} {o:Obj} {ρ σ:Tr B} {K:KU R} {e r:R} (h:uO u fo o ρ σ K e=r) (he:e≠r) (hi:UI ng m nx ρ σ) :
  Gives ng m nx ρ σ K r fun ρ=>UO (Dof ng ρ) fo o:=by
 unfold uO at h;split at h
 ·rename_i ro sz cs ro' sz' hi' cs';obtain ⟨h1,h2⟩:=aG h he;obtain ⟨h3,h4⟩:=aB h1;obtain ⟨h5,h6⟩:=aB h4;have:=kG.1 h3;subst this;have:=beq_iff.1 h5;subst this;have:=beq_iff.1 h6;subst this;obtain ⟨ρ1,σ1,k1,k2,k3,k4⟩:=Rk hu _ _ _ _ _ _ _ h2 he hi;exact ⟨ρ1,σ1,k1,k2,k3,.blk _ _ _ _ fun j a ha=>by simpa using k4 j a ha⟩
 ·obtain ⟨h1,h2⟩:=aG h he;have:=beq_iff.1 h1;subst this;obtain ⟨ρ1,σ1,k1,k2,k3,k4,k5⟩:=Rj hu _ _ _ _ _ _ _ h2 he hi;exact ⟨ρ1,σ1,k1,k2,k3,.map _ _ _ k4 k5⟩
 ·exact absurd h he
theorem Rh {R:Type} {ng m nx:Nat} {u:V→V→Tr B→Tr B→KU R→R→R} (hu:wC R ng m nx u) {t:Tr Obj}:∀ (l:List (Nat×FO)) (ρ σ:Tr B) (K:KU R) (e r:R),uOs u ng t l ρ σ K e=r→e≠r→UI ng m nx ρ σ →
  Gives ng m nx ρ σ K r fun ρ=>∀ x∈l,∃ j o,Dof ng ρ (bOf x.1) j∧j.get t=some o∧UO (Dof ng ρ) x.2 o
 | [],ρ,σ,K,e,r,h,_,hi => .here h hi fun x hx=>by cases hx
 | x::l,ρ,σ,K,e,r,h,he,hi=>by
   have h':aJ (Nat.blt x.1 ng) (Option.rec (motive:=fun _=>R) e (fun o=>uO u x.2 o ρ σ (fun ρ σ=>uOs u ng t l ρ σ K e) e) ((bOf x.1).get t))
    (bK ((bOf x.1).get ρ) (fun j=>Option.rec (motive:=fun _=>R) e (fun o=>uO u x.2 o ρ σ (fun ρ σ=>uOs u ng t l ρ σ K e) e) (j.get t)) e)=r:=h
   have key:∀ j,Dof ng ρ (bOf x.1) j→Option.rec (motive:=fun _=>R) e (fun o=>uO u x.2 o ρ σ (fun ρ σ=>uOs u ng t l ρ σ K e) e) (j.get t)=r →
     Gives ng m nx ρ σ K r fun ρ=>∀ y∈x::l,∃ j o,Dof ng ρ (bOf y.1) j∧j.get t=some o∧UO (Dof ng ρ) y.2 o:=fun j hd hj=>by
    cases hg:j.get t with
    | none=>rw [hg] at hj;exact absurd hj he
    | some o=>
      rw [hg] at hj;obtain ⟨ρ1,σ1,k1,k2,k3,k4⟩:=agT hu hj he hi;obtain ⟨ρ2,σ2,k5,k6,k7,k8⟩:=Rh hu l ρ1 σ1 K e r k1 he k2;refine ⟨ρ2,σ2,k5,k6,fun i j hij=>k7 i j (k3 i j hij),fun y hy=>?_⟩;rcases List.mem_cons.1 hy with rfl | hy
      ·exact ⟨j,o,(hd.mono k3).mono k7,hg,k4.mono fun i j hd=>hd.mono k7⟩
      ·exact k8 y hy
   rw [aQ] at h';split at h'
   ·rename_i h1;exact key (bOf x.1) (.inl ⟨aN.1 h1,rfl⟩) h'
   ·rename_i h1;rw [PG] at h';split at h'
    ·rename_i j hj;exact key j (.inr ⟨by have:¬ x.1<ng:=(fun h2=>h1 (aN.2 h2));exact Nat.not_lt.1 this,hj⟩) h'
    ·exact absurd h' he
end Go.Sim
