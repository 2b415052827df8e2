/- Sim: code made ready for the kernel does what the evaluator does. -/
import Derived.Test.YthckjidmpbiccaaGreatDoorSimN8And
set_option linter.unusedVariables false
set_option linter.unusedSimpArgs false
set_option linter.all false
namespace Go.Sim
open Go Go.RowKit
open Go.Abs (TE TK SK TOK TFacts)
section
variable {T:Nat→TE} {ng:Nat}
theorem iG {h:HC} {op:Op} (H:∀ call env t nx K,h.run call env t nx K=opH op ng T call ((aY op).map (opV ng env)) t nx K):h.For T ng op:=fun call env t nx K=>by
 rw [kQ];exact H call env t nx K
theorem dN (op:Op):(slow T ng op).For T ng op:=fun _ _ _ _ _=>rfl
theorem Eo {op:Op} {x:Operand} (h1:aY op=[x]) (h2:opH op ng=Pe):(MG (bF ng x)).For T ng op:=iG fun call env t nx K=>by
 rw [h1,h2]
 show K ((bF ng x).run env) t nx=K (opV ng env x) t nx
 rw [bQ]
theorem Rz {k:TK} (h1:k ≠ .none) (h2:∀ fs,k ≠ .agg fs) (h3:∀ n e,k ≠ .arr n e) (n:Nat) (cs:Tr V) (off:Nat) (K:V→R) (e:R) :
  Jk k n cs off K e=afO ((lnT V off).get cs) K e:=by
 rw [YX]
 cases k with
 | none=>exact absurd rfl h1
 | agg fs=>exact absurd rfl (h2 fs)
 | arr n e=>exact absurd rfl (h3 n e)
 | _=>rfl
theorem RP (ty:Nat) (x:Operand):(MH T ng ty x (bF ng x)).For T ng (.load ty x):=by
 unfold MH
 split
 ·exact dN _
 ·rename_i fs hk
  refine iG fun call env t nx K=>?_
  show CZ _ _ _=iR (opV ng env x) (fun id off=>iM (id.get t) (fun _ _ _ cs=>Jk (T ty).k (T ty).size cs off (fun v=>K v t nx) (.bad 2)) (.bad 3)) (.bad 4)
  rw [bQ,yZ,hk]
  simp only [Ij]
  rfl
 ·exact dN _
 ·rename_i h1 h2 h3
  refine iG fun call env t nx K=>?_
  show CZ _ _ _=iR (opV ng env x) (fun id off=>iM (id.get t) (fun _ _ _ cs=>Jk (T ty).k (T ty).size cs off (fun v=>K v t nx) (.bad 2)) (.bad 3)) (.bad 4)
  rw [bQ,yZ]
  simp only [Ij,Rz (fun e=>h1 e) (fun fs e=>h2 fs e) (fun n e' e=>h3 n e' e)]
theorem ZJ (a b:Nat) (K:Nat→R):afZ a b K=K (Nat.max a b):=by
 unfold afZ
 rw [jc,aO]
 split
 ·rename_i h;have:=aT.1 h;rw [show Nat.max a b=b by show max a b=b;omega]
 ·rename_i h;have:¬ a≤b:=fun h'=>h (aT.2 h');rw [show Nat.max a b=a by show max a b=a;omega]
theorem YV (id:B) (off:Nat) (v:V) (hv:one v=true) (t:Tr Obj) (K:Tr Obj→R) (e:R):Uz id off v t K e=oW id off [v] t K e:=by
 unfold Uz oW
 rw [Ij]
 congr 1
 funext ro sz hi cs
 rw [jc,EM,jc,aF]
 have:List.all [v] one=true:=by simp [hv]
 rw [this]
 have:∀ b,and b true=b:=fun b=>by cases b<;>rfl
 rw [this]
 congr 1
 rw [aO,aO]
 simp only [ZJ,aF]
 rfl
theorem UM (v:V) (K:V→R) (e:R):(Ob v K e=e)∨(one v=true∧cellsOf v=[v]∧Ob v K e=K v):=by
 cases v<;>first | exact .inl rfl | exact .inr ⟨rfl,rfl,rfl⟩
theorem MF (ty:Nat) (x y:Operand):(Gs T ng ty x y (bF ng x) (bF ng y)).For T ng (.store ty x y):=by
 unfold Gs
 split
 ·rename_i hk
  refine iG fun call env t nx K=>?_
  show Ob ((bF ng y).run env) (fun v=>CZ ((bF ng x).run env) (fun id off=>Uz id off v t (fun t'=>K .any t' nx) (.bad 5)) (.bad 7)) ((slow T ng (.store ty x y)).run call env t nx K) =
   iR (opV ng env x) (fun id off=>aH (and (Abs.TE.known (T ty)) (Nat.beq (T ty).size (cellsOf (opV ng env y)).length)) (oW id off (cellsOf (opV ng env y)) t (fun t'=>K .any t' nx) (.bad 5)) (.bad 6)) (.bad 7)
  rw [bQ,bQ]
  rcases UM (opV ng env y) (fun v=>CZ (opV ng env x) (fun id off=>Uz id off v t (fun t'=>K .any t' nx) (.bad 5)) (.bad 7)) ((slow T ng (.store ty x y)).run call env t nx K) with h | ⟨h1,h2,h3⟩
  ·rw [h];exact dN (.store ty x y) call env t nx K |>.trans (by rw [kQ];rfl)
  ·rw [h3,yZ,h2]
   simp only [YV _ _ _ h1,List.length_singleton,hk,aO,if_true]
 ·exact dN _
theorem afB (vs:List V):trS vs=eY vs .lf 0:=by unfold trS;rw [dO]
theorem ais (vs:List V):(trC vs).n=vs.length:=by unfold trC;cases vs<;>rfl
theorem afC (vs:List V):(trC vs).tr=eY vs .lf 0:=by
 unfold trC
 cases vs with
 | nil=>rfl
 | cons v vs=>exact afB (v::vs)
theorem ZH (n:Nat) (cs:Tr V) (t:Tr Obj) (nx:B) (K:KV):afW n cs t nx K=nM n cs t nx fun t' nx'=>K (.ptr nx 0) t' nx':=rfl
theorem MI (ty:Nat):(Gu T ng ty).For T ng (.alloc ty):=by
 unfold Gu
 split
 ·rename_i hk
  refine iG fun call env t nx K=>?_
  show afW (trC (cellsOf (cV (T ty).zero))).n (trC (cellsOf (cV (T ty).zero))).tr t nx K=aH (Abs.TE.known (T ty)) (mkVar (cellsOf (cV (T ty).zero)) t nx K) (.bad 102)
  obtain ⟨h1,h2⟩:=aB hk
  unfold mkVar
  rw [h1,h2,aO,if_pos rfl,aO,if_pos rfl,ais,afC,ZH,dO,aF]
 ·exact dN _
theorem ZW (ty f:Nat) (x:Operand):(agp T ng ty f x (bF ng x)).For T ng (.fieldAddr ty x f):=by
 unfold agp
 split
 ·rename_i fo fsz fb hk
  split
  ·rename_i hz
   refine iG fun call env t nx K=>?_
   show CZ ((bF ng x).run env) (fun id off=>fN (Nat.add off fo) fun o=>K (.ptr id o) t nx) (.bad 8) =
    aae (qL (T ty).k f) (fun fo fsz _=>aH (Nat.blt 0 fsz) (iR (opV ng env x) (fun id off=>aQ (Nat.add off fo) fun o=>K (.ptr id o) t nx) (.bad 8)) (.bad 8)) (.bad 8)
   rw [hk,bQ,yZ]
   show _=aH (Nat.blt 0 fsz) _ _
   rw [hz,aO,if_pos rfl]
   simp only [EM,aF]
  ·exact dN _
 ·exact dN _
theorem Je (i:Int) (len:Nat) (K:Nat→R) (e:R):wM i (fun m=>aH (Nat.blt m len) (K m) e) e=inB i len K e:=by cases i<;>rfl
theorem Jv (v:V) (K:Int→R) (e:R):Ei v K e=asInt v (fun _ i=>K i) e:=by unfold Ei;rw [ZO]
theorem ZV (ty:Nat) (x i:Operand):(agn T ng ty x i (bF ng x) (bF ng i)).For T ng (.indexAddr ty x i):=by
 unfold agn
 split
 ·rename_i e hk
  split
  ·rename_i hz
   refine iG fun call env t nx K=>?_
   show slR ((bF ng x).run env) (fun id sz off len _=>Ei ((bF ng i).run env) (fun i=>jr (Nat.beq sz (T e).size) (wM i (fun m=>jr (Nat.blt m len) (fN (Nat.add off (Nat.mul m sz)) fun o=>K (.ptr id o) t nx) (.bad 11)) (.bad 11)) (.bad 12)) (.bad 13)) (.bad 13) =
    L6 (T ty).k T (opV ng env x) (opV ng env i) t nx K
   rw [hk,bQ,bQ,afG]
   show _=lU (opV ng env x) (fun id sz off len _=>asInt (opV ng env i) (fun _ i=>aH (and (Abs.TE.known (T e)) (Nat.beq sz (T e).size)) (inB i len (fun m=>aQ (Nat.add off (Nat.mul m sz)) fun o=>K (.ptr id o) t nx) (.bad 11)) (.bad 12)) (.bad 13)) (.bad 13)
   have ht:∀ b,and true b=b:=fun b=>by cases b<;>rfl
   simp only [Jv,jc,Je,EM,aF,hz,ht]
  ·exact dN _
 ·exact dN _
theorem MC (ty:Nat) (x i:Operand):(Gq T ng ty x i (bF ng x) (bF ng i)).For T ng (.index ty x i):=by
 unfold Gq
 split
 ·rename_i hk
  refine iG fun call env t nx K=>?_
  show Fe ((bF ng x).run env) (fun l n=>Ei ((bF ng i).run env) (fun i=>wM i (fun m=>jr (Nat.blt m l) (fN (Nat.mod (Nat.shiftRight n (Nat.mul 8 (Nat.sub (Nat.sub l 1) m))) 256) fun c=>K (.int .u8 (.ofNat c)) t nx) (.bad 17)) (.bad 17)) (.bad 18)) (.bad 18) =
   Vd (T ty).k T (opV ng env x) (opV ng env i) t nx K
  rw [hk,bQ,bQ,YP]
  show _=fM (opV ng env x) (fun l n=>asInt (opV ng env i) (fun _ i=>inB i l (fun m=>aQ (Nat.mod (Nat.shiftRight n (Nat.mul 8 (Nat.sub (Nat.sub l 1) m))) 256) fun c=>K (.int .u8 (.ofNat c)) t nx) (.bad 17)) (.bad 18)) (.bad 18)
  simp only [Jv,jc,Je,EM,aF]
 ·exact dN _
theorem O7 (v:V) (K:Int→R) (e:R):Me v K e=e∨∃ n,v = .int .i64 n∧Me v K e=K n:=by
 cases v with
 | int k n=>cases k<;>first | exact .inl rfl | exact .inr ⟨n,rfl,rfl⟩
 | _=>exact .inl rfl
theorem QJ (op:BinOp) (ty:Nat) (x y:Operand) (z:TypeId):(ah2 T ng op ty (Md op) (bF ng x) (bF ng y)).For T ng (.binOp op ty x y z):=iG fun call env t nx K=>by
 show Me ((bF ng x).run env) (fun m=>Me ((bF ng y).run env) (fun n=>(Md op).run m n (fun v=>K v t nx) (kK ((bF ng x).run env) (T ty) (opI op) (opS op) (opE op) ((bF ng y).run env) fun v=>K v t nx))
   (kK ((bF ng x).run env) (T ty) (opI op) (opS op) (opE op) ((bF ng y).run env) fun v=>K v t nx)) (kK ((bF ng x).run env) (T ty) (opI op) (opS op) (opE op) ((bF ng y).run env) fun v=>K v t nx) =
  kK (opV ng env x) (T ty) (opI op) (opS op) (opE op) (opV ng env y) (fun v=>K v t nx)
 rw [bQ,bQ]
 generalize opV ng env x=a
 generalize opV ng env y=b
 rcases O7 a (fun m=>Me b (fun n=>(Md op).run m n (fun v=>K v t nx) (kK a (T ty) (opI op) (opS op) (opE op) b fun v=>K v t nx)) (kK a (T ty) (opI op) (opS op) (opE op) b fun v=>K v t nx)) (kK a (T ty) (opI op) (opS op) (opE op) b fun v=>K v t nx) with h | ⟨m,rfl,h⟩
 ·exact h
 ·rw [h]
  rcases O7 b (fun n=>(Md op).run m n (fun v=>K v t nx) (kK (.int .i64 m) (T ty) (opI op) (opS op) (opE op) b fun v=>K v t nx)) (kK (.int .i64 m) (T ty) (opI op) (opS op) (opE op) b fun v=>K v t nx) with h | ⟨n,rfl,h⟩
  ·exact h
  ·rw [h]
   exact ZU op m n fun v=>K v t nx
theorem V8 (te:TE) (a b:V) (K:V→R):eqStr a b K (kK a te (opI .eql) (opS .eql) (opE .eql) b K)=kK a te (opI .eql) (opS .eql) (opE .eql) b K:=by
 cases a<;>try rfl
 cases b<;>try rfl
 rename_i l n l' n'
 show jr (Nat.beq l l') (bR (Nat.beq n n') K) (K (.bool false))=dn (and (Nat.beq l l') (Nat.beq n n')) fun x=>K (.bool x)
 rw [aZ,EU]
 cases Nat.beq l l'<;>rfl
theorem UQ (te:TE) (a b:V) (K:V→R):UR a b K (kK a te (opI .neq) (opS .neq) (opE .neq) b K)=kK a te (opI .neq) (opS .neq) (opE .neq) b K:=by
 cases a<;>try rfl
 cases b<;>try rfl
 rename_i l n l' n'
 show jr (Nat.beq l l') (bnR (Nat.beq n n') K) (K (.bool true))=dn (not (and (Nat.beq l l') (Nat.beq n n'))) fun x=>K (.bool x)
 rw [aZ,XH]
 cases Nat.beq l l'<;>rfl
theorem Vl (op:BinOp) (ty:Nat) (x y:Operand) (z:TypeId):(Vm T ng op ty (bF ng x) (bF ng y)).For T ng (.binOp op ty x y z):=by
 unfold Vm
 split
 ·split
  ·refine iG fun call env t nx K=>?_
   show eqStr ((bF ng x).run env) ((bF ng y).run env) (fun v=>K v t nx) (kK ((bF ng x).run env) (T ty) (opI .eql) (opS .eql) (opE .eql) ((bF ng y).run env) fun v=>K v t nx)=kK (opV ng env x) (T ty) (opI .eql) (opS .eql) (opE .eql) (opV ng env y) (fun v=>K v t nx)
   rw [bQ,bQ];exact V8 _ _ _ _
  ·refine iG fun call env t nx K=>?_
   show UR ((bF ng x).run env) ((bF ng y).run env) (fun v=>K v t nx) (kK ((bF ng x).run env) (T ty) (opI .neq) (opS .neq) (opE .neq) ((bF ng y).run env) fun v=>K v t nx)=kK (opV ng env x) (T ty) (opI .neq) (opS .neq) (opE .neq) (opV ng env y) (fun v=>K v t nx)
   rw [bQ,bQ];exact UQ _ _ _ _
  ·exact QJ _ ty x y z
 ·exact QJ _ ty x y z
theorem OI:∀ (i:Nat) (l:List V) (K:V→R) (e:R),ZF i l K e=iO l[i]? K e
 | 0,[],_,_=>rfl
 | 0,_::_,_,_=>rfl
 | _+1,[],_,_=>rfl
 | i+1,v::l,K,e=>by
   show ZF i l K e=_
   rw [OI i l];rfl
theorem Gt (i:Nat) (x:Operand):(Es i (bF ng x)).For T ng (.extract x i):=iG fun call env t nx K=>by
 show afA ((bF ng x).run env) (fun vs=>ZF i vs (fun v=>K v t nx) (.bad 104)) (.bad 105)=Cm (opV ng env x) (fun vs=>iO vs[i]? (fun v=>K v t nx) (.bad 104)) (.bad 105)
 rw [bQ,YN]
 simp only [OI]
theorem Ja (ng:Nat) (env:Tr V):∀ xs:List Operand,(DZ ng xs).run env=xs.map (opV ng env)
 | []=>rfl
 | x::xs=>by
   show (bF ng x).run env::(DZ ng xs).run env=_
   rw [bQ,Ja ng env xs];rfl
theorem agE (r:FR) (K:V→Tr Obj→B→R):frR r K=frK r .bad K:=by cases r<;>rfl
theorem RQ {c:Call} {f:Nat} (h:c.callee = .value (.func f)):(Vk f (DZ ng c.args.toList)).For T ng (.call c):=iG fun call env t nx K=>by
 have e1:aY (.call c) = .func f::c.args.toList:=by simp only [aY,h]
 have e2:opH (.call c) ng=Vx:=by simp only [opH,h]
 rw [e1,e2]
 show frR (call f ((DZ ng c.args.toList).run env) t nx) K=frK (call f ([]++((c.args.toList.map (opV ng env))++[])) t nx) .bad K
 rw [Ja,agE,List.nil_append,List.append_nil]
theorem Vh {c:Call} {x:Operand} {ty:Nat} (h:c.callee = .builtin .len) (hx:c.args.toList=[x]) (ht:c.argTypes.toList=[ty]):(Vj T ng (.call c) ty (bF ng x)).For T ng (.call c):=by
 have e1:aY (.call c)=[x]:=by
  have:aY (.call c)=c.args.toList:=by simp only [aY,h]
  rw [this,hx]
 have e2:opH (.call c) ng=hLen ty:=by
  have:opH (.call c) ng=opB .len c.args.toList c.argTypes.toList:=by simp only [opH,h]
  rw [this,hx,ht];rfl
 have sl:∀ call env t nx K,(slow T ng (.call c)).run call env t nx K=U5 (T ty).k (opV ng env x) t (fun n=>K (.int .i64 (.ofNat n)) t nx):=fun call env t nx K=>by
  rw [dN (.call c) call env t nx K,kQ,e1,e2];rfl
 unfold Vj
 split
 ·rename_i e hk
  refine iG fun call env t nx K=>?_
  rw [e1,e2]
  show slR ((bF ng x).run env) (fun _ _ _ l _=>K (.int .i64 (.ofNat l)) t nx) ((slow T ng (.call c)).run call env t nx K)=U5 (T ty).k (opV ng env x) t (fun n=>K (.int .i64 (.ofNat n)) t nx)
  rw [bQ,sl,hk]
  cases opV ng env x<;>rfl
 ·rename_i hk
  refine iG fun call env t nx K=>?_
  rw [e1,e2]
  show Fe ((bF ng x).run env) (fun l _=>K (.int .i64 (.ofNat l)) t nx) ((slow T ng (.call c)).run call env t nx K)=U5 (T ty).k (opV ng env x) t (fun n=>K (.int .i64 (.ofNat n)) t nx)
  rw [bQ,sl,hk]
  cases opV ng env x<;>rfl
 ·exact dN _
theorem O9 (op:Op):(AU T ng op).For T ng op:=by
 unfold AU
 split
 ·exact Eo rfl rfl
 ·exact Eo rfl rfl
 ·exact MI _
 ·exact RP _ _
 ·exact MF _ _ _
 ·exact Vl _ _ _ _ _
 ·exact ZW _ _ _
 ·exact ZV _ _ _
 ·exact MC _ _ _
 ·exact Gt _ _
 ·split
  ·rename_i h1;exact RQ h1
  ·rename_i h1 h2 h3;exact Vh h1 h2 h3
  ·exact dN _
 ·exact dN _
theorem NT (dst:Option Tmp) (env:Tr V) (v:V) (K:Tr V→R):(yR dst).run env v K=oC dst env v K:=by cases dst<;>rfl
theorem uK {α:Type}:∀ (j:Nat) (l:List α) (K:α→R) (e:R),jm j l K e=iO l[j]? K e
 | 0,[],_,_=>rfl
 | 0,_::_,_,_=>rfl
 | _+1,[],_,_=>rfl
 | i+1,v::l,K,e=>by
   show jm i l K e=_
   rw [uK i l];rfl
theorem ZA (d:Tmp) (env:Tr V) (K:V→R):opK (.tmp d) ng env K=K ((bF ng (.tmp d)).run env):=by rw [bQ,wJ]
theorem Ak {all:List Oper} {o:Oper} {h:HC} {h':H} (hh:∀ call env t nx K,h.run call env t nx K=wI (aY o.op) ng env fun vals=>h' T call vals t nx K) (call:Cl) (env:Tr V) (t:Tr Obj) (nx:B) (k:KE) :
  (xZ ng all o h).run call env t nx k=stepG o.guard all o.dst h' (aY o.op) T call ng env t nx k:=by
 unfold xZ
 split
 ·rename_i hg
  rw [hg]
  show h.run call env t nx (fun v t nx=>(yR o.dst).run env v fun env=>k env t nx)=wI (aY o.op) ng env fun vals=>h' T call vals t nx fun v t nx=>oC o.dst env v fun env=>k env t nx
  rw [hh]
  simp only [NT]
 ·rename_i j want hg
  rw [hg]
  show _=jm j all (fun oj=>iO oj.dst (fun d=>opK (.tmp d) ng env fun v=>
   asBool v (fun b=>aH (qX b want) (wI (aY o.op) ng env fun vals=>h' T call vals t nx fun v t nx=>oC o.dst env v fun env=>k env t nx) (oC o.dst env .undef fun env=>k env t nx))
    (qI v (oC o.dst env .undef fun env=>k env t nx) (.bad 112))) (.bad 113)) (.bad 113)
  rw [uK]
  split
  ·rename_i oj hj
   rw [hj]
   show _=iO oj.dst (fun d=>opK (.tmp d) ng env fun v=>
    asBool v (fun b=>aH (qX b want) (wI (aY o.op) ng env fun vals=>h' T call vals t nx fun v t nx=>oC o.dst env v fun env=>k env t nx) (oC o.dst env .undef fun env=>k env t nx))
     (qI v (oC o.dst env .undef fun env=>k env t nx) (.bad 112))) (.bad 113)
   split
   ·rename_i d hd
    rw [hd]
    have e:∀ k':Tmp→R,iO (some d) k' (R.bad 113)=k' d:=fun _=>rfl
    rw [e,ZA]
    show QG ((bF ng (.tmp d)).run env) (fun b=>jr (qX b want) (h.run call env t nx fun v t nx=>(yR o.dst).run env v fun env=>k env t nx) ((yR o.dst).run env .undef fun env=>k env t nx))
     (qI ((bF ng (.tmp d)).run env) ((yR o.dst).run env .undef fun env=>k env t nx) (.bad 112))=_
    rw [XG,hh]
    simp only [NT,jc]
   ·rename_i hd
    rw [hd];rfl
  ·rename_i hj
   rw [hj];rfl
theorem UN (all:List Oper) (o:Oper):Jc T ng all o=xZ ng all o (AU T ng o.op):=rfl
theorem FK (all:List Oper) (o:Oper) (call:Cl) (env:Tr V) (t:Tr Obj) (nx:B) (k:KE):(Jc T ng all o).run call env t nx k=stepG o.guard all o.dst (opH o.op ng) (aY o.op) T call ng env t nx k:=by
 rw [UN];exact Ak (O9 o.op) call env t nx k
theorem qy (all:List Oper):∀ (os:List Oper) (call:Cl) (env:Tr V) (t:Tr Obj) (nx:B) (k:KE),(CY T ng all os).run call env t nx k=Fv os all T call ng env t nx k
 | [],_,_,_,_,_=>rfl
 | o::os,call,env,t,nx,k=>by
   show (Jc T ng all o).run call env t nx (fun env t nx=>(CY T ng all os).run call env t nx k)=stepG o.guard all o.dst (opH o.op ng) (aY o.op) T call ng env t nx fun env t nx=>Fv os all T call ng env t nx k
   rw [FK]
   simp only [qy all os]
theorem agl (hs:List (Tr Obj×B)) (K:Tr Obj→B→R):hdR hs K=hdK hs fun t nx _=>K t nx:=by
 cases hs with
 | nil=>rfl
 | cons h hs=>rfl
theorem jg (all:List Oper):∀ (its:List DI) (call:Cl) (env:Tr V) (t:Tr Obj) (nx:B) (hs:List (Tr Obj×B)) (k:KE),(tJ T ng all its).run call env t nx hs k=yQ its all T call ng env t nx hs k
 | [],_,_,_,_,_,_=>rfl
 | .z j::its,call,env,t,nx,hs,k=>by
   show _=jm j all (fun o=>stepG o.guard all o.dst (opH o.op ng) (aY o.op) T call ng env t nx fun env t nx=>yQ its all T call ng env t nx hs k) (.bad 132)
   rw [uK]
   unfold tJ
   split
   ·rename_i o ho
    rw [ho]
    show (Jc T ng all o).run call env t nx (fun env t nx=>(tJ T ng all its).run call env t nx hs k)=stepG o.guard all o.dst (opH o.op ng) (aY o.op) T call ng env t nx fun env t nx=>yQ its all T call ng env t nx hs k
    rw [FK]
    simp only [jg all its]
   ·rename_i ho
    rw [ho];rfl
 | .c j::its,call,env,t,nx,hs,k=>by
   show _=jm j all (fun o=>stepG o.guard all o.dst (opH o.op ng) (aY o.op) T call ng env t nx fun env t nx=>yQ its all T call ng env t nx ((t,nx)::hs) k) (.bad 132)
   rw [uK]
   unfold tJ
   split
   ·rename_i o ho
    rw [ho]
    show (Jc T ng all o).run call env t nx (fun env t nx=>(tJ T ng all its).run call env t nx ((t,nx)::hs) k)=stepG o.guard all o.dst (opH o.op ng) (aY o.op) T call ng env t nx fun env t nx=>yQ its all T call ng env t nx ((t,nx)::hs) k
    rw [FK]
    simp only [jg all its]
   ·rename_i ho
    rw [ho];rfl
 | .q j back::its,call,env,t,nx,hs,k=>by
   show _=jm j all (fun o=>stepG o.guard all o.dst (yH back hs (opH o.op ng)) (aY o.op) T call ng env t nx fun env t nx=>yQ its all T call ng env t nx hs k) (.bad 132)
   rw [uK]
   unfold tJ
   split
   ·rename_i o ho
    rw [ho]
    show _=stepG o.guard all o.dst (yH back hs (opH o.op ng)) (aY o.op) T call ng env t nx fun env t nx=>yQ its all T call ng env t nx hs k
    split
    ·have h0:∀ call env t nx K,(agm (AU T ng o.op) hs).run call env t nx K=wI (aY o.op) ng env fun vals=>yH 0 hs (opH o.op ng) T call vals t nx K:=fun call env t nx K=>by
      show hdR hs (fun t0 nx0=>(AU T ng o.op).run call env t0 nx0 fun v _ _=>K v t nx)=_
      rw [agl,kQ]
      show _=hdK hs fun t0 nx0 hs=>opH o.op ng T call ((aY o.op).map (opV ng env)) t0 nx0 fun v _ _=>K v t nx
      congr 1
      funext t0 nx0 hs'
      rw [O9 o.op,kQ]
     have h1:=Ak (all:=all) (o:=o) h0 call env t nx fun env t nx=>(tJ T ng all its).run call env t nx hs k
     simp only [jg all its] at h1
     rw [← h1]
     unfold akj
     split
     ·rename_i hg
      unfold xZ
      rw [hg]
      show hdR hs (fun t0 nx0=>(AU T ng o.op).run call env t0 nx0 fun v _ _=>(yR o.dst).run env v fun env=>(tJ T ng all its).run call env t nx hs k) =
       hdR hs (fun t0 nx0=>(AU T ng o.op).run call env t0 nx0 fun v _ _=>(yR o.dst).run env v fun env=>yQ its all T call ng env t nx hs k)
      simp only [jg all its]
     ·show (xZ ng all o (agm (AU T ng o.op) hs)).run call env t nx (fun env t nx=>(tJ T ng all its).run call env t nx hs k)=_
      simp only [jg all its]
    ·show (xZ ng all o (aaV T ng o.op _ hs)).run call env t nx (fun env t nx=>(tJ T ng all its).run call env t nx hs k)=_
     rw [Ak (h':=yH back hs (opH o.op ng)) (fun _ _ _ _ _=>rfl)]
     simp only [jg all its]
   ·rename_i ho
    rw [ho];rfl
 | .f _ _ _ _::_,_,_,_,_,_,_=>rfl
theorem aal (all:List Oper) (its:List DI) (call:Cl) (env:Tr V) (t:Tr Obj) (nx:B) (k:KE):(ag1 T ng all its).run call env t nx k=afH its all T call ng env t nx k:=by
 cases its with
 | nil=>exact jg (T:=T) (ng:=ng) all [] call env t nx [(t,nx)] k
 | cons it rest=>
   cases it with
   | f m n a b=>rfl
   | q j b=>exact jg (T:=T) (ng:=ng) all (.q j b::rest) call env t nx [(t,nx)] k
   | z j=>exact jg (T:=T) (ng:=ng) all (.z j::rest) call env t nx [(t,nx)] k
   | c j=>exact jg (T:=T) (ng:=ng) all (.c j::rest) call env t nx [(t,nx)] k
end
section
variable {P:Program} {T:Nat→TE} {w0:World} {ng:Nat} {nt:Nat}
def aft (x:X) (kn:KE) (ko:X→KE):KE:=match x with | .nrm=>kn | x=>ko x
theorem Xw {v:V} {a b e r:R} (h:Xx v a b e=r) (he:e≠r):(v = .bool true∧a=r)∨(v = .bool false∧b=r):=by
 cases v with
 | bool c=>cases c with
   | true=>exact .inl ⟨rfl,h⟩
   | false=>exact .inr ⟨rfl,h⟩
 | _=>exact absurd h he
theorem Jh {call:Cl} {c:Code} {cc:CC} {N:Nat}
  (hb:∀ env t nx kn ko r,(∀ n,R.bad n≠r)→cc.run call N env t nx kn ko=r→∃ x env' t' nx',CT P T w0 ng nt c env t nx x env' t' nx'∧aft x kn ko env' t' nx'=r) :
  ∀ n env t nx kn ko r,(∀ n,R.bad n≠r)→Ji cc call N n env t nx kn ko=r→∃ x env' t' nx',x ≠ .nrm∧LT P T w0 ng nt c env t nx x env' t' nx'∧aft x kn ko env' t' nx'=r
 | 0,_,_,_,_,_,_,hr,h=>absurd h (hr _)
 | n+1,env,t,nx,kn,ko,r,hr,h=>by
   have h':cc.run call N env t nx (fun env t nx=>Ji cc call N n env t nx kn ko) ko=r:=h
   obtain ⟨x,env1,t1,nx1,k1,k2⟩:=hb _ _ _ _ _ _ hr h'
   by_cases hx:x = .nrm
   ·subst hx
    have k2:Ji cc call N n env1 t1 nx1 kn ko=r:=k2
    obtain ⟨x2,env2,t2,nx2,n2,k3,k4⟩:=Jh hb n _ _ _ _ _ _ hr k2
    refine ⟨x2,env2,t2,nx2,n2,fun g hp a w h1 h2 h3=>?_,k4⟩
    refine gB.step (wp_mono (k1 g hp a w h1 h2 h3) fun e a1 w1 ⟨he,g1,hp1,st,ha⟩=>?_)
    subst he
    intro b k cs
    obtain ⟨e,a2,w2,⟨he,g2,hp2,st2,ha2⟩,harr⟩:=k3 g1 hp1 a1 w1 st.hr st.sub ha b k cs
    exact ⟨e,a2,w2,⟨he,g2,hp2,st.trans st2,ha2⟩,harr⟩
   ·have k2:ko x env1 t1 nx1=r:=by cases x<;>first | exact absurd rfl hx | exact k2
    refine ⟨x,env1,t1,nx1,hx,fun g hp a w h1 h2 h3=>?_,by cases x<;>first | exact absurd rfl hx | exact k2⟩
    refine gB.step (wp_mono (k1 g hp a w h1 h2 h3) fun e a1 w1 ⟨he,g1,hp1,st,ha⟩=>?_)
    subst he
    cases x with
    | nrm=>exact absurd rfl hx
    | ex i=>exact ⟨rfl,g1,hp1,st,ha⟩
    | ret=>exact ⟨rfl,g1,hp1,st,ha⟩
theorem zx (hT:TOK P T) {call:Cl} (hc:fU P T w0 ng call) {ann:Nat→List DI} (N:Nat):∀ c env t nx kn ko r,(∀ n,R.bad n≠r)→dG P T w0 ng nt ann c→(oD T ng ann c).run call N env t nx kn ko=r →
  ∃ x env' t' nx',CT P T w0 ng nt c env t nx x env' t' nx'∧aft x kn ko env' t' nx'=r:=by
 intro c
 induction c with
 | skip=>intro env t nx kn ko r hr _ h;exact ⟨.nrm,env,t,nx,fun g hp a w h1 h2 h3=>wp_skip ⟨rfl,g,hp,.refl h1 h2,h3⟩,h⟩
 | ret=>intro env t nx kn ko r hr _ h;exact ⟨.ret,env,t,nx,fun g hp a w h1 h2 h3=>wp_ret ⟨rfl,g,hp,.refl h1 h2,h3⟩,h⟩
 | exit id=>intro env t nx kn ko r hr _ h;exact ⟨.ex id,env,t,nx,fun g hp a w h1 h2 h3=>wp_exit ⟨rfl,g,hp,.refl h1 h2,h3⟩,h⟩
 | region id ops d=>
   intro env t nx kn ko r hr hok h
   obtain ⟨ops⟩:=ops
   cases d with
   | false=>
     have h':(CY T ng ops ops).run call env t nx kn=r:=h
     rw [qy] at h'
     obtain ⟨env1,t1,nx1,k1,k2⟩:=jK hT hc (all:=ops) hok.1 hr (fun o ho=>ho) h'
     exact ⟨.nrm,env1,t1,nx1,fun g hp a w h1 h2 h3=>wp_region_lit (k2 g hp a w h1 h2 h3 _ fun g' hp' a' w' st ha=>⟨rfl,g',hp',st,ha⟩),k1⟩
   | true=>
     have h':(ag1 T ng ops (ann id)).run call env t nx kn=r:=h
     rw [aal] at h'
     obtain ⟨env1,t1,nx1,k1,k2⟩:=hok.2 rfl _ hc env t nx _ _ hr h'
     exact ⟨.nrm,env1,t1,nx1,fun g hp a w h1 h2 h3=>k2 id g hp a w h1 h2 h3 _ fun g' hp' a' w' st ha=>⟨rfl,g',hp',st,ha⟩,k1⟩
 | seq c1 c2 i1 i2=>
   intro env t nx kn ko r hr hok h
   have h':(oD T ng ann c1).run call N env t nx (fun env t nx=>(oD T ng ann c2).run call N env t nx kn ko) ko=r:=h
   obtain ⟨x1,env1,t1,nx1,k1,k2⟩:=i1 _ _ _ _ _ _ hr hok.1 h'
   cases x1 with
   | nrm=>
     obtain ⟨x2,env2,t2,nx2,k3,k4⟩:=i2 _ _ _ _ _ _ hr hok.2 k2
     refine ⟨x2,env2,t2,nx2,fun g hp a w h1 h2 h3=>wp_seq (wp_mono (k1 g hp a w h1 h2 h3) fun e a1 w1 ⟨he,g1,hp1,st,ha⟩=>?_),k4⟩
     subst he
     exact wp_mono (k3 g1 hp1 a1 w1 st.hr st.sub ha) fun e a2 w2 ⟨he,g2,hp2,st2,ha2⟩=>⟨he,g2,hp2,st.trans st2,ha2⟩
   | ex i=>
     refine ⟨.ex i,env1,t1,nx1,fun g hp a w h1 h2 h3=>wp_seq (wp_mono (k1 g hp a w h1 h2 h3) fun e a1 w1 ⟨he,g1,hp1,st,ha⟩=>?_),k2⟩
     subst he
     exact ⟨rfl,g1,hp1,st,ha⟩
   | ret=>
     refine ⟨.ret,env1,t1,nx1,fun g hp a w h1 h2 h3=>wp_seq (wp_mono (k1 g hp a w h1 h2 h3) fun e a1 w1 ⟨he,g1,hp1,st,ha⟩=>?_),k2⟩
     subst he
     exact ⟨rfl,g1,hp1,st,ha⟩
 | cond y c1 c2 i1 i2=>
   intro env t nx kn ko r hr hok h
   have h':Xx ((bF ng y).run env) ((oD T ng ann c1).run call N env t nx kn ko) ((oD T ng ann c2).run call N env t nx kn ko) (.bad 120)=r:=h
   rw [bQ] at h'
   have ev:∀ b,opV ng env y = .bool b→∀ g hp a w,HR T w0 ng g hp nx w→AR g nx.num nt env a→a.eval y = .bool b:=fun b hv g hp a w h1 h3=>by
    have hev:=h3.eval h1 y
    rw [hv] at hev
    generalize a.eval y=u at hev
    cases hev;rfl
   rcases Xw h' (hr _) with ⟨hv,k⟩ | ⟨hv,k⟩
   ·obtain ⟨x,env1,t1,nx1,k1,k2⟩:=i1 _ _ _ _ _ _ hr hok.1 k
    exact ⟨x,env1,t1,nx1,fun g hp a w h1 h2 h3=>wp_cond_true (ev _ hv g hp a w h1 h3) (k1 g hp a w h1 h2 h3),k2⟩
   ·obtain ⟨x,env1,t1,nx1,k1,k2⟩:=i2 _ _ _ _ _ _ hr hok.2 k
    exact ⟨x,env1,t1,nx1,fun g hp a w h1 h2 h3=>wp_cond_false (ev _ hv g hp a w h1 h3) (k1 g hp a w h1 h2 h3),k2⟩
 | block id c1 i1=>
   intro env t nx kn ko r hr hok h
   have h':(oD T ng ann c1).run call N env t nx kn (fun x env t nx=>xR x id (kn env t nx) (ko x env t nx))=r:=h
   obtain ⟨x1,env1,t1,nx1,k1,k2⟩:=i1 _ _ _ _ _ _ hr hok h'
   cases x1 with
   | nrm=>
     refine ⟨.nrm,env1,t1,nx1,fun g hp a w h1 h2 h3=>wp_block (wp_mono (k1 g hp a w h1 h2 h3) fun e a1 w1 ⟨he,g1,hp1,st,ha⟩=>?_),k2⟩
     subst he;exact ⟨rfl,g1,hp1,st,ha⟩
   | ret=>
     refine ⟨.ret,env1,t1,nx1,fun g hp a w h1 h2 h3=>wp_block (wp_mono (k1 g hp a w h1 h2 h3) fun e a1 w1 ⟨he,g1,hp1,st,ha⟩=>?_),k2⟩
     subst he;exact ⟨rfl,g1,hp1,st,ha⟩
   | ex i=>
     have k2:aH (Nat.beq i id) (kn env1 t1 nx1) (ko (.ex i) env1 t1 nx1)=r:=k2
     rw [aO] at k2
     split at k2
     ·rename_i e
      refine ⟨.nrm,env1,t1,nx1,fun g hp a w h1 h2 h3=>wp_block (wp_mono (k1 g hp a w h1 h2 h3) fun e' a1 w1 ⟨he,g1,hp1,st,ha⟩=>?_),k2⟩
      subst he
      simp only [X.exit,Exit.inBlock]
      rw [if_pos (beq_iff.1 e)]
      exact ⟨rfl,g1,hp1,st,ha⟩
     ·rename_i e
      refine ⟨.ex i,env1,t1,nx1,fun g hp a w h1 h2 h3=>wp_block (wp_mono (k1 g hp a w h1 h2 h3) fun e' a1 w1 ⟨he,g1,hp1,st,ha⟩=>?_),k2⟩
      subst he
      simp only [X.exit,Exit.inBlock]
      rw [if_neg (fun e'=>e (beq_iff.2 e'))]
      exact ⟨rfl,g1,hp1,st,ha⟩
 | loop c1 i1=>
   intro env t nx kn ko r hr hok h
   have h':Ji (oD T ng ann c1) call N N env t nx kn ko=r:=h
   obtain ⟨x,env1,t1,nx1,_,k1,k2⟩:=Jh (P:=P) (w0:=w0) (nt:=nt) (c:=c1) (fun env t nx kn ko r hr h=>i1 env t nx kn ko r hr hok h) N _ _ _ _ _ _ hr h'
   exact ⟨x,env1,t1,nx1,fun g hp a w h1 h2 h3=>(k1 g hp a w h1 h2 h3).wp,k2⟩
 | _=>intro env t nx kn ko r hr _ h;exact absurd h (hr _)
theorem afS {r:R} {K:X→Tr V→Tr Obj→B→FR} {r':FR} (h:okF r K=r') (hr:∀ n,FR.bad n≠r'):∃ x env t nx,r = .ok x env t nx∧K x env t nx=r':=by
 cases r with
 | bad n=>exact absurd h (hr n)
 | ok x env t nx=>exact ⟨x,env,t,nx,rfl,h⟩
theorem YZ {o:Option FC} {K:FC→FR} {n:Nat} {r:FR} (h:aiA o K n=r) (hr:∀ n,FR.bad n≠r):∃ fc,o=some fc∧K fc=r:=by
 cases o with
 | none=>exact absurd h (hr n)
 | some v=>exact ⟨v,rfl,h⟩
theorem GX:∀ (args:List V) (i:Nat) (env:Tr V) (K:Tr V→R),Sz args i env K=K (eY args env i)
 | [],_,_,_=>rfl
 | v::vs,i,env,K=>by
   show (bOf i).iq env (some v) (fun env=>Sz vs (i+1) env K)=_
   rw [B.dh,GX vs];rfl
def dJ (P:Program) (T:Nat→TE) (w0:World) (ng:Nat) (F:Nat→Option FC):Prop:=∀ f fc,F f=some fc→∃ fe,fc=Sj T ng fe ∧
 ∀ args t nx e v t' nx',fe.pre args t nx e = .ret v t' nx'→Comes P T w0 ng f args t nx v t' nx'∨(e = .ret v t' nx'∧au P T w0 ng f fe)
noncomputable def fcK (T:Nat→TE) (ng:Nat) (o:Option FE):Option FC:=match o with | some fe=>some (Sj T ng fe) | none=>none
theorem dJ.of {F:Nat→Option FE} (h:FOK P T w0 ng F):dJ P T w0 ng fun f=>fcK T ng (F f):=fun f fc hf=>by
 have hf:fcK T ng (F f)=some fc:=hf
 cases hF:F f with
 | none=>rw [hF] at hf;cases hf
 | some fe=>
   rw [hF] at hf
   exact ⟨fe,(Option.some.inj hf).symm,h f fe hF⟩
theorem pU (hT:TOK P T) {F:Nat→Option FC} (hF:dJ P T w0 ng F) (N:Nat):∀ n,fU P T w0 ng (mZ T F ng N n)
 | 0=>fun f args t nx v t' nx' h=>by cases h
 | n+1=>fun f args t nx v t' nx' h=>by
   have ih:=pU hT hF N n
   have hb:∀ n,FR.bad n ≠ .ret v t' nx':=fun n h=>by cases h
   obtain ⟨fc,hfc,k1⟩:=YZ h hb
   obtain ⟨fe,rfl,hfe⟩:=hF f fc hfc
   rcases hfe args t nx _ v t' nx' k1 with hct | ⟨k2,fn,e1,e2,e3,e4,e5,e6⟩
   ·exact hct
   obtain ⟨x,env1,t1,nx1,k4,k5⟩:=afS k2 hb
   have hbr:∀ n,R.bad n ≠ .ok x env1 t1 nx1:=fun n h=>by cases h
   have k4:jr (Nat.ble args.length fe.nt) (Sz args 0 .lf fun env=>(oD T ng fe.ann fe.body).run (mZ T F ng N n) N env t nx (fun env t nx => .ok .nrm env t nx) (fun x env t nx => .ok x env t nx)) (.bad 119) = .ok x env1 t1 nx1:=k4
   rw [jc] at k4
   obtain ⟨hle,k3⟩:=aC k4 (hbr _)
   have hle:=aT.1 hle
   rw [GX] at k3
   obtain ⟨x1,env2,t2,nx2,hct,k6⟩:=zx (nt:=fe.nt) hT ih N fe.body _ _ _ _ _ _ hbr e6 k3
   have k6:R.ok x1 env2 t2 nx2 = .ok x env1 t1 nx1:=by cases x1<;>exact k6
   cases k6
   exact .inl <| XD e1 e2 e3 e4 e5 hT hle hct k5
end
end Go.Sim
namespace Go.Sim
open Go Go.RowKit
open Go.Abs (TE TK SK TOK teOf ksOf)
inductive TyT where
 | nil
 | leaf (t:Nat) (e:TE)
 | node (m:Nat) (l r:TyT)
def TyT.look:TyT→Nat→TE
 | .nil,_=>⟨.none,0,0,.tuple #[],[]⟩
 | .leaf t e,x=>match Nat.beq t x with | true=>e | false=>⟨.none,0,0,.tuple #[],[]⟩
 | .node m l r,x=>match Nat.blt x m with | true=>l.look x | false=>r.look x
def TyT.leaves:TyT→List (Nat×TE)
 | .nil=>[]
 | .leaf t e=>[(t,e)]
 | .node _ l r=>l.leaves++r.leaves
theorem TyT.wP (x:Nat):∀ t:TyT,(t.look x).k = .none∨(x,t.look x)∈t.leaves
 | .nil => .inl rfl
 | .leaf t e=>by
   unfold TyT.look
   cases h:Nat.beq t x with
   | true=>right;rw [← Nat.eq_of_beq_eq_true h];exact List.mem_cons_self
   | false=>exact .inl rfl
 | .node m l r=>by
   unfold TyT.look
   cases h:Nat.blt x m with
   | true=>exact (TyT.wP x l).imp id (fun h=>List.mem_append_left _ h)
   | false=>exact (TyT.wP x r).imp id (fun h=>List.mem_append_right _ h)
def Io (e:TE):TE:={ e with ks:=[] }
def Gl (P:Program) (x:Nat×TE):List SK:=match x.2.ks with | []=>[] | _=>ksOf P x.1
theorem TyT.tok {P:Program} {t:TyT} (h:t.leaves.map (fun x=>(Io x.2,x.2.ks))=t.leaves.map (fun x=>(teOf P x.1,Gl P x))):TOK P t.look:=fun x=>by
 rcases TyT.wP x t with h' | h'
 ·exact .inl h'
 ·right
  have:∀ (l:List (Nat×TE)),l.map (fun x=>(Io x.2,x.2.ks))=l.map (fun x=>(teOf P x.1,Gl P x))→∀ e,(x,e)∈l→Io e=teOf P x∧(e.ks=[]∨e.ks=ksOf P x):=by
   intro l
   induction l with
   | nil=>intro _ e he;cases he
   | cons y l ih=>
     intro hl e he
     simp only [List.map_cons,List.cons.injEq,Prod.mk.injEq] at hl
     rcases List.mem_cons.1 he with he | he
     ·rw [← he] at hl
      refine ⟨hl.1.1,?_⟩
      have:=hl.1.2
      unfold Gl at this
      cases hk:e.ks with
      | nil=>exact .inl rfl
      | cons k ks=>right;simp only [hk] at this;exact this
     ·exact ih hl.2 e he
  exact this _ h _ h'
inductive FT where
 | nil
 | leaf (f:Nat) (e:FE)
 | node (m:Nat) (l r:FT)
noncomputable def FT.look:FT→Nat→Option FE
 | .nil,_=>none
 | .leaf t e,x=>match Nat.beq t x with | true=>some e | false=>none
 | .node m l r,x=>match Nat.blt x m with | true=>l.look x | false=>r.look x
def aI:List (Nat×List DI)→Nat→List DI
 | [],_=>[]
 | x::l,i=>match Nat.beq x.1 i with | true=>x.2 | false=>aI l i
noncomputable def aA (f:Func) (ann:Nat→List DI):FE:=⟨fun _ _ _ e=>e,match f.body with | some c=>c | none => .skip,f.results.toList,f.ntmps,ann⟩
end Go.Sim
