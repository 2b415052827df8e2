/- Sim: code made ready for the kernel does what the evaluator does. -/
import Derived.Test.YtjjiblgcmdbcoaaGreatDoorSimPOne
set_option linter.unusedVariables false
set_option linter.unusedSimpArgs false
set_option linter.all false
namespace Go.Sim
open Go Go.RowKit
open Go.Abs (TE TK SK TOK TFacts)

section
variable {T : Nat → TE} {ng : Nat}
theorem for_of {h : HC} {op : Op} (H : ∀ call env t nx K, h.run call env t nx K = opH op ng T call ((opnds op).map (opV ng env)) t nx K) : h.For T ng op := fun call env t nx K => by
  rw [opVs_eq]; exact H call env t nx K
theorem slow_for (op : Op) : (slow T ng op).For T ng op := fun _ _ _ _ _ => rfl

theorem hcMove_ok {op : Op} {x : Operand} (h1 : opnds op = [x]) (h2 : opH op ng = hMove) : (hcMove (ovOf ng x)).For T ng op := for_of fun call env t nx K => by
  rw [h1, h2]
  show K ((ovOf ng x).run env) t nx = K (opV ng env x) t nx
  rw [ovOf_eq]

theorem loadC_one {k : TK} (h1 : k ≠ .none) (h2 : ∀ fs, k ≠ .agg fs) (h3 : ∀ n e, k ≠ .arr n e) (n : Nat) (cs : Tr V) (off : Nat) (K : V → R) (e : R) :
    loadC k n cs off K e = optV ((lnT V off).get cs) K e := by
  rw [optV_eq]
  cases k with
  | none => exact absurd rfl h1
  | agg fs => exact absurd rfl (h2 fs)
  | arr n e => exact absurd rfl (h3 n e)
  | _ => rfl

theorem hcLoad_ok (ty : Nat) (x : Operand) : (hcLoad T ng ty x (ovOf ng x)).For T ng (.load ty x) := by
  unfold hcLoad
  split
  · exact slow_for _
  · rename_i fs hk
    refine for_of fun call env t nx K => ?_
    show ptrR _ _ _ = asPtr (opV ng env x) (fun id off => asBlk (id.get t) (fun _ _ _ cs => loadC (T ty).k (T ty).size cs off (fun v => K v t nx) (.bad 2)) (.bad 3)) (.bad 4)
    rw [ovOf_eq, ptrR_eq, hk]
    simp only [blkR_eq]
    rfl
  · exact slow_for _
  · rename_i h1 h2 h3
    refine for_of fun call env t nx K => ?_
    show ptrR _ _ _ = asPtr (opV ng env x) (fun id off => asBlk (id.get t) (fun _ _ _ cs => loadC (T ty).k (T ty).size cs off (fun v => K v t nx) (.bad 2)) (.bad 3)) (.bad 4)
    rw [ovOf_eq, ptrR_eq]
    simp only [blkR_eq, loadC_one (fun e => h1 e) (fun fs e => h2 fs e) (fun n e' e => h3 n e' e)]

theorem maxK_eq (a b : Nat) (K : Nat → R) : maxK a b K = K (Nat.max a b) := by
  unfold maxK
  rw [iteR_eq, ite'_eq]
  split
  · rename_i h; have := ble_iff.1 h; rw [show Nat.max a b = b by show max a b = b; omega]
  · rename_i h; have : ¬ a ≤ b := fun h' => h (ble_iff.2 h'); rw [show Nat.max a b = a by show max a b = a; omega]
theorem put1_eq (id : B) (off : Nat) (v : V) (hv : one v = true) (t : Tr Obj) (K : Tr Obj → R) (e : R) : put1 id off v t K e = putCs id off [v] t K e := by
  unfold put1 putCs
  rw [blkR_eq]
  congr 1
  funext ro sz hi cs
  rw [iteR_eq, fN_eq, iteR_eq, forceN_eq]
  have : List.all [v] one = true := by simp [hv]
  rw [this]
  have : ∀ b, and b true = b := fun b => by cases b <;> rfl
  rw [this]
  congr 1
  rw [ite'_eq, ite'_eq]
  simp only [maxK_eq, forceN_eq]
  rfl
theorem one1R_ok (v : V) (K : V → R) (e : R) : (one1R v K e = e) ∨ (one v = true ∧ cellsOf v = [v] ∧ one1R v K e = K v) := by
  cases v <;> first | exact .inl rfl | exact .inr ⟨rfl, rfl, rfl⟩

theorem hcStore_ok (ty : Nat) (x y : Operand) : (hcStore T ng ty x y (ovOf ng x) (ovOf ng y)).For T ng (.store ty x y) := by
  unfold hcStore
  split
  · rename_i hk
    refine for_of fun call env t nx K => ?_
    show one1R ((ovOf ng y).run env) (fun v => ptrR ((ovOf ng x).run env) (fun id off => put1 id off v t (fun t' => K .any t' nx) (.bad 5)) (.bad 7)) ((slow T ng (.store ty x y)).run call env t nx K) =
      asPtr (opV ng env x) (fun id off => ite' (and (Abs.TE.known (T ty)) (Nat.beq (T ty).size (cellsOf (opV ng env y)).length)) (putCs id off (cellsOf (opV ng env y)) t (fun t' => K .any t' nx) (.bad 5)) (.bad 6)) (.bad 7)
    rw [ovOf_eq, ovOf_eq]
    rcases one1R_ok (opV ng env y) (fun v => ptrR (opV ng env x) (fun id off => put1 id off v t (fun t' => K .any t' nx) (.bad 5)) (.bad 7)) ((slow T ng (.store ty x y)).run call env t nx K) with h | ⟨h1, h2, h3⟩
    · rw [h]; exact slow_for (.store ty x y) call env t nx K |>.trans (by rw [opVs_eq]; rfl)
    · rw [h3, ptrR_eq, h2]
      simp only [put1_eq _ _ _ h1, List.length_singleton, hk, ite'_eq, if_true]
  · exact slow_for _

theorem trS_eq (vs : List V) : trS vs = putN vs .lf 0 := by unfold trS; rw [setN_eq]
theorem trC_n (vs : List V) : (trC vs).n = vs.length := by unfold trC; cases vs <;> rfl
theorem trC_tr (vs : List V) : (trC vs).tr = putN vs .lf 0 := by
  unfold trC
  cases vs with
  | nil => rfl
  | cons v vs => exact trS_eq (v :: vs)
theorem newB_eq (n : Nat) (cs : Tr V) (t : Tr Obj) (nx : B) (K : KV) : newB n cs t nx K = newBlk n cs t nx fun t' nx' => K (.ptr nx 0) t' nx' := rfl
theorem hcAlloc_ok (ty : Nat) : (hcAlloc T ng ty).For T ng (.alloc ty) := by
  unfold hcAlloc
  split
  · rename_i hk
    refine for_of fun call env t nx K => ?_
    show newB (trC (cellsOf (cV (T ty).zero))).n (trC (cellsOf (cV (T ty).zero))).tr t nx K = ite' (Abs.TE.known (T ty)) (mkVar (cellsOf (cV (T ty).zero)) t nx K) (.bad 102)
    obtain ⟨h1, h2⟩ := and_ok hk
    unfold mkVar
    rw [h1, h2, ite'_eq, if_pos rfl, ite'_eq, if_pos rfl, trC_n, trC_tr, newB_eq, setN_eq, forceN_eq]
  · exact slow_for _

theorem hcFA_ok (ty f : Nat) (x : Operand) : (hcFA T ng ty f x (ovOf ng x)).For T ng (.fieldAddr ty x f) := by
  unfold hcFA
  split
  · rename_i fo fsz fb hk
    split
    · rename_i hz
      refine for_of fun call env t nx K => ?_
      show ptrR ((ovOf ng x).run env) (fun id off => fN (Nat.add off fo) fun o => K (.ptr id o) t nx) (.bad 8) =
        fldK (fieldOf (T ty).k f) (fun fo fsz _ => ite' (Nat.blt 0 fsz) (asPtr (opV ng env x) (fun id off => forceN (Nat.add off fo) fun o => K (.ptr id o) t nx) (.bad 8)) (.bad 8)) (.bad 8)
      rw [hk, ovOf_eq, ptrR_eq]
      show _ = ite' (Nat.blt 0 fsz) _ _
      rw [hz, ite'_eq, if_pos rfl]
      simp only [fN_eq, forceN_eq]
    · exact slow_for _
  · exact slow_for _

theorem natR_inB (i : Int) (len : Nat) (K : Nat → R) (e : R) : natR i (fun m => ite' (Nat.blt m len) (K m) e) e = inB i len K e := by cases i <;> rfl
theorem intR'_eq (v : V) (K : Int → R) (e : R) : intR' v K e = asInt v (fun _ i => K i) e := by unfold intR'; rw [intR_eq]
theorem hcIA_ok (ty : Nat) (x i : Operand) : (hcIA T ng ty x i (ovOf ng x) (ovOf ng i)).For T ng (.indexAddr ty x i) := by
  unfold hcIA
  split
  · rename_i e hk
    split
    · rename_i hz
      refine for_of fun call env t nx K => ?_
      show slR ((ovOf ng x).run env) (fun id sz off len _ => intR' ((ovOf ng i).run env) (fun i => iteR (Nat.beq sz (T e).size) (natR i (fun m => iteR (Nat.blt m len) (fN (Nat.add off (Nat.mul m sz)) fun o => K (.ptr id o) t nx) (.bad 11)) (.bad 11)) (.bad 12)) (.bad 13)) (.bad 13) =
        ixAddr (T ty).k T (opV ng env x) (opV ng env i) t nx K
      rw [hk, ovOf_eq, ovOf_eq, slR_eq]
      show _ = asSl (opV ng env x) (fun id sz off len _ => asInt (opV ng env i) (fun _ i => ite' (and (Abs.TE.known (T e)) (Nat.beq sz (T e).size)) (inB i len (fun m => forceN (Nat.add off (Nat.mul m sz)) fun o => K (.ptr id o) t nx) (.bad 11)) (.bad 12)) (.bad 13)) (.bad 13)
      have ht : ∀ b, and true b = b := fun b => by cases b <;> rfl
      simp only [intR'_eq, iteR_eq, natR_inB, fN_eq, forceN_eq, hz, ht]
    · exact slow_for _
  · exact slow_for _
theorem hcStrIx_ok (ty : Nat) (x i : Operand) : (hcStrIx T ng ty x i (ovOf ng x) (ovOf ng i)).For T ng (.index ty x i) := by
  unfold hcStrIx
  split
  · rename_i hk
    refine for_of fun call env t nx K => ?_
    show strR ((ovOf ng x).run env) (fun l n => intR' ((ovOf ng i).run env) (fun i => natR i (fun m => iteR (Nat.blt m l) (fN (Nat.mod (Nat.shiftRight n (Nat.mul 8 (Nat.sub (Nat.sub l 1) m))) 256) fun c => K (.int .u8 (.ofNat c)) t nx) (.bad 17)) (.bad 17)) (.bad 18)) (.bad 18) =
      ixVal (T ty).k T (opV ng env x) (opV ng env i) t nx K
    rw [hk, ovOf_eq, ovOf_eq, strR_eq]
    show _ = asStr (opV ng env x) (fun l n => asInt (opV ng env i) (fun _ i => inB i l (fun m => forceN (Nat.mod (Nat.shiftRight n (Nat.mul 8 (Nat.sub (Nat.sub l 1) m))) 256) fun c => K (.int .u8 (.ofNat c)) t nx) (.bad 17)) (.bad 18)) (.bad 18)
    simp only [intR'_eq, iteR_eq, natR_inB, fN_eq, forceN_eq]
  · exact slow_for _

theorem i64R_ok (v : V) (K : Int → R) (e : R) : i64R v K e = e ∨ ∃ n, v = .int .i64 n ∧ i64R v K e = K n := by
  cases v with
  | int k n => cases k <;> first | exact .inl rfl | exact .inr ⟨n, rfl, rfl⟩
  | _ => exact .inl rfl
theorem binC_ok (op : BinOp) (ty : Nat) (x y : Operand) (z : TypeId) : (binC T ng op ty (icOf op) (ovOf ng x) (ovOf ng y)).For T ng (.binOp op ty x y z) := for_of fun call env t nx K => by
  show i64R ((ovOf ng x).run env) (fun m => i64R ((ovOf ng y).run env) (fun n => (icOf op).run m n (fun v => K v t nx) (binV ((ovOf ng x).run env) (T ty) (opI op) (opS op) (opE op) ((ovOf ng y).run env) fun v => K v t nx))
      (binV ((ovOf ng x).run env) (T ty) (opI op) (opS op) (opE op) ((ovOf ng y).run env) fun v => K v t nx)) (binV ((ovOf ng x).run env) (T ty) (opI op) (opS op) (opE op) ((ovOf ng y).run env) fun v => K v t nx) =
    binV (opV ng env x) (T ty) (opI op) (opS op) (opE op) (opV ng env y) (fun v => K v t nx)
  rw [ovOf_eq, ovOf_eq]
  generalize opV ng env x = a
  generalize opV ng env y = b
  rcases i64R_ok a (fun m => i64R b (fun n => (icOf op).run m n (fun v => K v t nx) (binV a (T ty) (opI op) (opS op) (opE op) b fun v => K v t nx)) (binV a (T ty) (opI op) (opS op) (opE op) b fun v => K v t nx)) (binV a (T ty) (opI op) (opS op) (opE op) b fun v => K v t nx) with h | ⟨m, rfl, h⟩
  · exact h
  · rw [h]
    rcases i64R_ok b (fun n => (icOf op).run m n (fun v => K v t nx) (binV (.int .i64 m) (T ty) (opI op) (opS op) (opE op) b fun v => K v t nx)) (binV (.int .i64 m) (T ty) (opI op) (opS op) (opE op) b fun v => K v t nx) with h | ⟨n, rfl, h⟩
    · exact h
    · rw [h]
      exact icOf_ok op m n fun v => K v t nx
theorem eqStr_ok (te : TE) (a b : V) (K : V → R) : eqStr a b K (binV a te (opI .eql) (opS .eql) (opE .eql) b K) = binV a te (opI .eql) (opS .eql) (opE .eql) b K := by
  cases a <;> try rfl
  cases b <;> try rfl
  rename_i l n l' n'
  show iteR (Nat.beq l l') (bR (Nat.beq n n') K) (K (.bool false)) = forceB (and (Nat.beq l l') (Nat.beq n n')) fun x => K (.bool x)
  rw [forceB_eq, bR_eq]
  cases Nat.beq l l' <;> rfl
theorem neStr_ok (te : TE) (a b : V) (K : V → R) : neStr a b K (binV a te (opI .neq) (opS .neq) (opE .neq) b K) = binV a te (opI .neq) (opS .neq) (opE .neq) b K := by
  cases a <;> try rfl
  cases b <;> try rfl
  rename_i l n l' n'
  show iteR (Nat.beq l l') (bnR (Nat.beq n n') K) (K (.bool true)) = forceB (not (and (Nat.beq l l') (Nat.beq n n'))) fun x => K (.bool x)
  rw [forceB_eq, bnR_eq]
  cases Nat.beq l l' <;> rfl
theorem hcBin_ok (op : BinOp) (ty : Nat) (x y : Operand) (z : TypeId) : (hcBin T ng op ty (ovOf ng x) (ovOf ng y)).For T ng (.binOp op ty x y z) := by
  unfold hcBin
  split
  · split
    · refine for_of fun call env t nx K => ?_
      show eqStr ((ovOf ng x).run env) ((ovOf ng y).run env) (fun v => K v t nx) (binV ((ovOf ng x).run env) (T ty) (opI .eql) (opS .eql) (opE .eql) ((ovOf ng y).run env) fun v => K v t nx) = binV (opV ng env x) (T ty) (opI .eql) (opS .eql) (opE .eql) (opV ng env y) (fun v => K v t nx)
      rw [ovOf_eq, ovOf_eq]; exact eqStr_ok _ _ _ _
    · refine for_of fun call env t nx K => ?_
      show neStr ((ovOf ng x).run env) ((ovOf ng y).run env) (fun v => K v t nx) (binV ((ovOf ng x).run env) (T ty) (opI .neq) (opS .neq) (opE .neq) ((ovOf ng y).run env) fun v => K v t nx) = binV (opV ng env x) (T ty) (opI .neq) (opS .neq) (opE .neq) (opV ng env y) (fun v => K v t nx)
      rw [ovOf_eq, ovOf_eq]; exact neStr_ok _ _ _ _
    · exact binC_ok _ ty x y z
  · exact binC_ok _ ty x y z

theorem nthV_eq : ∀ (i : Nat) (l : List V) (K : V → R) (e : R), nthV i l K e = optK l[i]? K e
  | 0, [], _, _ => rfl
  | 0, _ :: _, _, _ => rfl
  | _ + 1, [], _, _ => rfl
  | i + 1, v :: l, K, e => by
    show nthV i l K e = _
    rw [nthV_eq i l]; rfl
theorem hcExtract_ok (i : Nat) (x : Operand) : (hcExtract i (ovOf ng x)).For T ng (.extract x i) := for_of fun call env t nx K => by
  show tupR ((ovOf ng x).run env) (fun vs => nthV i vs (fun v => K v t nx) (.bad 104)) (.bad 105) = asTup (opV ng env x) (fun vs => optK vs[i]? (fun v => K v t nx) (.bad 104)) (.bad 105)
  rw [ovOf_eq, tupR_eq]
  simp only [nthV_eq]

theorem ovsOf_eq (ng : Nat) (env : Tr V) : ∀ xs : List Operand, (ovsOf ng xs).run env = xs.map (opV ng env)
  | [] => rfl
  | x :: xs => by
    show (ovOf ng x).run env :: (ovsOf ng xs).run env = _
    rw [ovOf_eq, ovsOf_eq ng env xs]; rfl
theorem frR_eq (r : FR) (K : V → Tr Obj → B → R) : frR r K = frK r .bad K := by cases r <;> rfl
theorem hcCall_ok {c : Call} {f : Nat} (h : c.callee = .value (.func f)) : (hcCall f (ovsOf ng c.args.toList)).For T ng (.call c) := for_of fun call env t nx K => by
  have e1 : opnds (.call c) = .func f :: c.args.toList := by simp only [opnds, h]
  have e2 : opH (.call c) ng = hCall := by simp only [opH, h]
  rw [e1, e2]
  show frR (call f ((ovsOf ng c.args.toList).run env) t nx) K = frK (call f ([] ++ ((c.args.toList.map (opV ng env)) ++ [])) t nx) .bad K
  rw [ovsOf_eq, frR_eq, List.nil_append, List.append_nil]
theorem hcLen_ok {c : Call} {x : Operand} {ty : Nat} (h : c.callee = .builtin .len) (hx : c.args.toList = [x]) (ht : c.argTypes.toList = [ty]) : (hcLen T ng (.call c) ty (ovOf ng x)).For T ng (.call c) := by
  have e1 : opnds (.call c) = [x] := by
    have : opnds (.call c) = c.args.toList := by simp only [opnds, h]
    rw [this, hx]
  have e2 : opH (.call c) ng = hLen ty := by
    have : opH (.call c) ng = opB .len c.args.toList c.argTypes.toList := by simp only [opH, h]
    rw [this, hx, ht]; rfl
  have sl : ∀ call env t nx K, (slow T ng (.call c)).run call env t nx K = lenK (T ty).k (opV ng env x) t (fun n => K (.int .i64 (.ofNat n)) t nx) := fun call env t nx K => by
    rw [slow_for (.call c) call env t nx K, opVs_eq, e1, e2]; rfl
  unfold hcLen
  split
  · rename_i e hk
    refine for_of fun call env t nx K => ?_
    rw [e1, e2]
    show slR ((ovOf ng x).run env) (fun _ _ _ l _ => K (.int .i64 (.ofNat l)) t nx) ((slow T ng (.call c)).run call env t nx K) = lenK (T ty).k (opV ng env x) t (fun n => K (.int .i64 (.ofNat n)) t nx)
    rw [ovOf_eq, sl, hk]
    cases opV ng env x <;> rfl
  · rename_i hk
    refine for_of fun call env t nx K => ?_
    rw [e1, e2]
    show strR ((ovOf ng x).run env) (fun l _ => K (.int .i64 (.ofNat l)) t nx) ((slow T ng (.call c)).run call env t nx K) = lenK (T ty).k (opV ng env x) t (fun n => K (.int .i64 (.ofNat n)) t nx)
    rw [ovOf_eq, sl, hk]
    cases opV ng env x <;> rfl
  · exact slow_for _
theorem hcOf_ok (op : Op) : (hcOf T ng op).For T ng op := by
  unfold hcOf
  split
  · exact hcMove_ok rfl rfl
  · exact hcMove_ok rfl rfl
  · exact hcAlloc_ok _
  · exact hcLoad_ok _ _
  · exact hcStore_ok _ _ _
  · exact hcBin_ok _ _ _ _ _
  · exact hcFA_ok _ _ _
  · exact hcIA_ok _ _ _
  · exact hcStrIx_ok _ _ _
  · exact hcExtract_ok _ _
  · split
    · rename_i h1; exact hcCall_ok h1
    · rename_i h1 h2 h3; exact hcLen_ok h1 h2 h3
    · exact slow_for _
  · exact slow_for _

/-! regions -/
theorem ptOf_eq (dst : Option Tmp) (env : Tr V) (v : V) (K : Tr V → R) : (ptOf dst).run env v K = putT dst env v K := by cases dst <;> rfl
theorem boolR_eq' (v : V) (K : Bool → R) (e : R) : boolR v K e = asBool v K e := boolR_eq v K e
theorem nthK_eq {α : Type} : ∀ (j : Nat) (l : List α) (K : α → R) (e : R), nthK j l K e = optK l[j]? K e
  | 0, [], _, _ => rfl
  | 0, _ :: _, _, _ => rfl
  | _ + 1, [], _, _ => rfl
  | i + 1, v :: l, K, e => by
    show nthK i l K e = _
    rw [nthK_eq i l]; rfl
theorem opK_tmp (d : Tmp) (env : Tr V) (K : V → R) : opK (.tmp d) ng env K = K ((ovOf ng (.tmp d)).run env) := by rw [ovOf_eq, opK_eq]
theorem ocOfH_eq {all : List Oper} {o : Oper} {h : HC} {h' : H} (hh : ∀ call env t nx K, h.run call env t nx K = opVs (opnds o.op) ng env fun vals => h' T call vals t nx K) (call : Cl) (env : Tr V) (t : Tr Obj) (nx : B) (k : KE) :
    (ocOfH ng all o h).run call env t nx k = stepG o.guard all o.dst h' (opnds o.op) T call ng env t nx k := by
  unfold ocOfH
  split
  · rename_i hg
    rw [hg]
    show h.run call env t nx (fun v t nx => (ptOf o.dst).run env v fun env => k env t nx) = opVs (opnds o.op) ng env fun vals => h' T call vals t nx fun v t nx => putT o.dst env v fun env => k env t nx
    rw [hh]
    simp only [ptOf_eq]
  · rename_i j want hg
    rw [hg]
    show _ = nthK j all (fun oj => optK oj.dst (fun d => opK (.tmp d) ng env fun v =>
      asBool v (fun b => ite' (eqBo b want) (opVs (opnds o.op) ng env fun vals => h' T call vals t nx fun v t nx => putT o.dst env v fun env => k env t nx) (putT o.dst env .undef fun env => k env t nx))
        (isUndef v (putT o.dst env .undef fun env => k env t nx) (.bad 112))) (.bad 113)) (.bad 113)
    rw [nthK_eq]
    split
    · rename_i oj hj
      rw [hj]
      show _ = optK oj.dst (fun d => opK (.tmp d) ng env fun v =>
        asBool v (fun b => ite' (eqBo b want) (opVs (opnds o.op) ng env fun vals => h' T call vals t nx fun v t nx => putT o.dst env v fun env => k env t nx) (putT o.dst env .undef fun env => k env t nx))
          (isUndef v (putT o.dst env .undef fun env => k env t nx) (.bad 112))) (.bad 113)
      split
      · rename_i d hd
        rw [hd]
        have e : ∀ k' : Tmp → R, optK (some d) k' (R.bad 113) = k' d := fun _ => rfl
        rw [e, opK_tmp]
        show boolR ((ovOf ng (.tmp d)).run env) (fun b => iteR (eqBo b want) (h.run call env t nx fun v t nx => (ptOf o.dst).run env v fun env => k env t nx) ((ptOf o.dst).run env .undef fun env => k env t nx))
          (isUndef ((ovOf ng (.tmp d)).run env) ((ptOf o.dst).run env .undef fun env => k env t nx) (.bad 112)) = _
        rw [boolR_eq, hh]
        simp only [ptOf_eq, iteR_eq]
      · rename_i hd
        rw [hd]; rfl
    · rename_i hj
      rw [hj]; rfl
theorem ocOf_eq' (all : List Oper) (o : Oper) : ocOf T ng all o = ocOfH ng all o (hcOf T ng o.op) := rfl
theorem ocOf_eq (all : List Oper) (o : Oper) (call : Cl) (env : Tr V) (t : Tr Obj) (nx : B) (k : KE) : (ocOf T ng all o).run call env t nx k = stepG o.guard all o.dst (opH o.op ng) (opnds o.op) T call ng env t nx k := by
  rw [ocOf_eq']; exact ocOfH_eq (hcOf_ok o.op) call env t nx k
theorem rcOf_eq (all : List Oper) : ∀ (os : List Oper) (call : Cl) (env : Tr V) (t : Tr Obj) (nx : B) (k : KE), (rcOf T ng all os).run call env t nx k = runOps os all T call ng env t nx k
  | [], _, _, _, _, _ => rfl
  | o :: os, call, env, t, nx, k => by
    show (ocOf T ng all o).run call env t nx (fun env t nx => (rcOf T ng all os).run call env t nx k) = stepG o.guard all o.dst (opH o.op ng) (opnds o.op) T call ng env t nx fun env t nx => runOps os all T call ng env t nx k
    rw [ocOf_eq]
    simp only [rcOf_eq all os]
theorem hdR_eq (hs : List (Tr Obj × B)) (K : Tr Obj → B → R) : hdR hs K = hdK hs fun t nx _ => K t nx := by
  cases hs with
  | nil => rfl
  | cons h hs => rfl
theorem dcOf_eq (all : List Oper) : ∀ (its : List DI) (call : Cl) (env : Tr V) (t : Tr Obj) (nx : B) (hs : List (Tr Obj × B)) (k : KE), (dcOf T ng all its).run call env t nx hs k = runD its all T call ng env t nx hs k
  | [], _, _, _, _, _, _ => rfl
  | .z j :: its, call, env, t, nx, hs, k => by
    show _ = nthK j all (fun o => stepG o.guard all o.dst (opH o.op ng) (opnds o.op) T call ng env t nx fun env t nx => runD its all T call ng env t nx hs k) (.bad 132)
    rw [nthK_eq]
    unfold dcOf
    split
    · rename_i o ho
      rw [ho]
      show (ocOf T ng all o).run call env t nx (fun env t nx => (dcOf T ng all its).run call env t nx hs k) = stepG o.guard all o.dst (opH o.op ng) (opnds o.op) T call ng env t nx fun env t nx => runD its all T call ng env t nx hs k
      rw [ocOf_eq]
      simp only [dcOf_eq all its]
    · rename_i ho
      rw [ho]; rfl
  | .c j :: its, call, env, t, nx, hs, k => by
    show _ = nthK j all (fun o => stepG o.guard all o.dst (opH o.op ng) (opnds o.op) T call ng env t nx fun env t nx => runD its all T call ng env t nx ((t, nx) :: hs) k) (.bad 132)
    rw [nthK_eq]
    unfold dcOf
    split
    · rename_i o ho
      rw [ho]
      show (ocOf T ng all o).run call env t nx (fun env t nx => (dcOf T ng all its).run call env t nx ((t, nx) :: hs) k) = stepG o.guard all o.dst (opH o.op ng) (opnds o.op) T call ng env t nx fun env t nx => runD its all T call ng env t nx ((t, nx) :: hs) k
      rw [ocOf_eq]
      simp only [dcOf_eq all its]
    · rename_i ho
      rw [ho]; rfl
  | .q j back :: its, call, env, t, nx, hs, k => by
    show _ = nthK j all (fun o => stepG o.guard all o.dst (atAll back hs (opH o.op ng)) (opnds o.op) T call ng env t nx fun env t nx => runD its all T call ng env t nx hs k) (.bad 132)
    rw [nthK_eq]
    unfold dcOf
    split
    · rename_i o ho
      rw [ho]
      show _ = stepG o.guard all o.dst (atAll back hs (opH o.op ng)) (opnds o.op) T call ng env t nx fun env t nx => runD its all T call ng env t nx hs k
      split
      · have h0 : ∀ call env t nx K, (hcQ0 (hcOf T ng o.op) hs).run call env t nx K = opVs (opnds o.op) ng env fun vals => atAll 0 hs (opH o.op ng) T call vals t nx K := fun call env t nx K => by
          show hdR hs (fun t0 nx0 => (hcOf T ng o.op).run call env t0 nx0 fun v _ _ => K v t nx) = _
          rw [hdR_eq, opVs_eq]
          show _ = hdK hs fun t0 nx0 hs => opH o.op ng T call ((opnds o.op).map (opV ng env)) t0 nx0 fun v _ _ => K v t nx
          congr 1
          funext t0 nx0 hs'
          rw [hcOf_ok o.op, opVs_eq]
        have h1 := ocOfH_eq (all := all) (o := o) h0 call env t nx fun env t nx => (dcOf T ng all its).run call env t nx hs k
        simp only [dcOf_eq all its] at h1
        rw [← h1]
        unfold dcQ0
        split
        · rename_i hg
          unfold ocOfH
          rw [hg]
          show hdR hs (fun t0 nx0 => (hcOf T ng o.op).run call env t0 nx0 fun v _ _ => (ptOf o.dst).run env v fun env => (dcOf T ng all its).run call env t nx hs k) =
            hdR hs (fun t0 nx0 => (hcOf T ng o.op).run call env t0 nx0 fun v _ _ => (ptOf o.dst).run env v fun env => runD its all T call ng env t nx hs k)
          simp only [dcOf_eq all its]
        · show (ocOfH ng all o (hcQ0 (hcOf T ng o.op) hs)).run call env t nx (fun env t nx => (dcOf T ng all its).run call env t nx hs k) = _
          simp only [dcOf_eq all its]
      · show (ocOfH ng all o (slowQ T ng o.op _ hs)).run call env t nx (fun env t nx => (dcOf T ng all its).run call env t nx hs k) = _
        rw [ocOfH_eq (h' := atAll back hs (opH o.op ng)) (fun _ _ _ _ _ => rfl)]
        simp only [dcOf_eq all its]
    · rename_i ho
      rw [ho]; rfl
  | .f _ _ _ _ :: _, _, _, _, _, _, _ => rfl
theorem drOf_eq (all : List Oper) (its : List DI) (call : Cl) (env : Tr V) (t : Tr Obj) (nx : B) (k : KE) : (drOf T ng all its).run call env t nx k = runA its all T call ng env t nx k := by
  cases its with
  | nil => exact dcOf_eq (T := T) (ng := ng) all [] call env t nx [(t, nx)] k
  | cons it rest =>
    cases it with
    | f m n a b => rfl
    | q j b => exact dcOf_eq (T := T) (ng := ng) all (.q j b :: rest) call env t nx [(t, nx)] k
    | z j => exact dcOf_eq (T := T) (ng := ng) all (.z j :: rest) call env t nx [(t, nx)] k
    | c j => exact dcOf_eq (T := T) (ng := ng) all (.c j :: rest) call env t nx [(t, nx)] k
end

/-! code -/
section
variable {P : Program} {T : Nat → TE} {w0 : World} {ng : Nat} {nt : Nat}
def aft (x : X) (kn : KE) (ko : X → KE) : KE := match x with | .nrm => kn | x => ko x
theorem xR_eq (x : X) (id : Nat) (a b : R) : xR x id a b = exK x id a b := by cases x <;> rfl
theorem condR_ok {v : V} {a b e r : R} (h : condR v a b e = r) (he : e ≠ r) : (v = .bool true ∧ a = r) ∨ (v = .bool false ∧ b = r) := by
  cases v with
  | bool c => cases c with
    | true => exact .inl ⟨rfl, h⟩
    | false => exact .inr ⟨rfl, h⟩
  | _ => exact absurd h he

theorem loopR_ok {call : Cl} {c : Code} {cc : CC} {N : Nat}
    (hb : ∀ env t nx kn ko r, (∀ n, R.bad n ≠ r) → cc.run call N env t nx kn ko = r → ∃ x env' t' nx', CT P T w0 ng nt c env t nx x env' t' nx' ∧ aft x kn ko env' t' nx' = r) :
    ∀ n env t nx kn ko r, (∀ n, R.bad n ≠ r) → loopR cc call N n env t nx kn ko = r → ∃ x env' t' nx', x ≠ .nrm ∧ LT P T w0 ng nt c env t nx x env' t' nx' ∧ aft x kn ko env' t' nx' = r
  | 0, _, _, _, _, _, _, hr, h => absurd h (hr _)
  | n + 1, env, t, nx, kn, ko, r, hr, h => by
    have h' : cc.run call N env t nx (fun env t nx => loopR cc call N n env t nx kn ko) ko = r := h
    obtain ⟨x, env1, t1, nx1, k1, k2⟩ := hb _ _ _ _ _ _ hr h'
    by_cases hx : x = .nrm
    · subst hx
      have k2 : loopR cc call N n env1 t1 nx1 kn ko = r := k2
      obtain ⟨x2, env2, t2, nx2, n2, k3, k4⟩ := loopR_ok hb n _ _ _ _ _ _ hr k2
      refine ⟨x2, env2, t2, nx2, n2, fun g hp a w h1 h2 h3 => ?_, k4⟩
      refine LoopRun.step (wp_mono (k1 g hp a w h1 h2 h3) fun e a1 w1 ⟨he, g1, hp1, st, ha⟩ => ?_)
      subst he
      intro b k cs
      obtain ⟨e, a2, w2, ⟨he, g2, hp2, st2, ha2⟩, harr⟩ := k3 g1 hp1 a1 w1 st.hr st.sub ha b k cs
      exact ⟨e, a2, w2, ⟨he, g2, hp2, st.trans st2, ha2⟩, harr⟩
    · have k2 : ko x env1 t1 nx1 = r := by cases x <;> first | exact absurd rfl hx | exact k2
      refine ⟨x, env1, t1, nx1, hx, fun g hp a w h1 h2 h3 => ?_, by cases x <;> first | exact absurd rfl hx | exact k2⟩
      refine LoopRun.step (wp_mono (k1 g hp a w h1 h2 h3) fun e a1 w1 ⟨he, g1, hp1, st, ha⟩ => ?_)
      subst he
      cases x with
      | nrm => exact absurd rfl hx
      | ex i => exact ⟨rfl, g1, hp1, st, ha⟩
      | ret => exact ⟨rfl, g1, hp1, st, ha⟩

theorem ccOf_ok (hT : TOK P T) {call : Cl} (hc : CallOK P T w0 ng call) {ann : Nat → List DI} (N : Nat) : ∀ c env t nx kn ko r, (∀ n, R.bad n ≠ r) → CodeOK P T w0 ng nt ann c → (ccOf T ng ann c).run call N env t nx kn ko = r →
    ∃ x env' t' nx', CT P T w0 ng nt c env t nx x env' t' nx' ∧ aft x kn ko env' t' nx' = r := by
  intro c
  induction c with
  | skip => intro env t nx kn ko r hr _ h; exact ⟨.nrm, env, t, nx, fun g hp a w h1 h2 h3 => wp_skip ⟨rfl, g, hp, .refl h1 h2, h3⟩, h⟩
  | ret => intro env t nx kn ko r hr _ h; exact ⟨.ret, env, t, nx, fun g hp a w h1 h2 h3 => wp_ret ⟨rfl, g, hp, .refl h1 h2, h3⟩, h⟩
  | exit id => intro env t nx kn ko r hr _ h; exact ⟨.ex id, env, t, nx, fun g hp a w h1 h2 h3 => wp_exit ⟨rfl, g, hp, .refl h1 h2, h3⟩, h⟩
  | region id ops d =>
    intro env t nx kn ko r hr hok h
    obtain ⟨ops⟩ := ops
    cases d with
    | false =>
      have h' : (rcOf T ng ops ops).run call env t nx kn = r := h
      rw [rcOf_eq] at h'
      obtain ⟨env1, t1, nx1, k1, k2⟩ := runOps_ok hT hc (all := ops) hok.1 hr (fun o ho => ho) h'
      exact ⟨.nrm, env1, t1, nx1, fun g hp a w h1 h2 h3 => wp_region_lit (k2 g hp a w h1 h2 h3 _ fun g' hp' a' w' st ha => ⟨rfl, g', hp', st, ha⟩), k1⟩
    | true =>
      have h' : (drOf T ng ops (ann id)).run call env t nx kn = r := h
      rw [drOf_eq] at h'
      obtain ⟨env1, t1, nx1, k1, k2⟩ := hok.2 rfl _ hc env t nx _ _ hr h'
      exact ⟨.nrm, env1, t1, nx1, fun g hp a w h1 h2 h3 => k2 id g hp a w h1 h2 h3 _ fun g' hp' a' w' st ha => ⟨rfl, g', hp', st, ha⟩, k1⟩
  | seq c1 c2 i1 i2 =>
    intro env t nx kn ko r hr hok h
    have h' : (ccOf T ng ann c1).run call N env t nx (fun env t nx => (ccOf T ng ann c2).run call N env t nx kn ko) ko = r := h
    obtain ⟨x1, env1, t1, nx1, k1, k2⟩ := i1 _ _ _ _ _ _ hr hok.1 h'
    cases x1 with
    | nrm =>
      obtain ⟨x2, env2, t2, nx2, k3, k4⟩ := i2 _ _ _ _ _ _ hr hok.2 k2
      refine ⟨x2, env2, t2, nx2, fun g hp a w h1 h2 h3 => wp_seq (wp_mono (k1 g hp a w h1 h2 h3) fun e a1 w1 ⟨he, g1, hp1, st, ha⟩ => ?_), k4⟩
      subst he
      exact wp_mono (k3 g1 hp1 a1 w1 st.hr st.sub ha) fun e a2 w2 ⟨he, g2, hp2, st2, ha2⟩ => ⟨he, g2, hp2, st.trans st2, ha2⟩
    | ex i =>
      refine ⟨.ex i, env1, t1, nx1, fun g hp a w h1 h2 h3 => wp_seq (wp_mono (k1 g hp a w h1 h2 h3) fun e a1 w1 ⟨he, g1, hp1, st, ha⟩ => ?_), k2⟩
      subst he
      exact ⟨rfl, g1, hp1, st, ha⟩
    | ret =>
      refine ⟨.ret, env1, t1, nx1, fun g hp a w h1 h2 h3 => wp_seq (wp_mono (k1 g hp a w h1 h2 h3) fun e a1 w1 ⟨he, g1, hp1, st, ha⟩ => ?_), k2⟩
      subst he
      exact ⟨rfl, g1, hp1, st, ha⟩
  | cond y c1 c2 i1 i2 =>
    intro env t nx kn ko r hr hok h
    have h' : condR ((ovOf ng y).run env) ((ccOf T ng ann c1).run call N env t nx kn ko) ((ccOf T ng ann c2).run call N env t nx kn ko) (.bad 120) = r := h
    rw [ovOf_eq] at h'
    have ev : ∀ b, opV ng env y = .bool b → ∀ g hp a w, HR T w0 ng g hp nx w → AR g nx.num nt env a → a.eval y = .bool b := fun b hv g hp a w h1 h3 => by
      have hev := h3.eval h1 y
      rw [hv] at hev
      generalize a.eval y = u at hev
      cases hev; rfl
    rcases condR_ok h' (hr _) with ⟨hv, k⟩ | ⟨hv, k⟩
    · obtain ⟨x, env1, t1, nx1, k1, k2⟩ := i1 _ _ _ _ _ _ hr hok.1 k
      exact ⟨x, env1, t1, nx1, fun g hp a w h1 h2 h3 => wp_cond_true (ev _ hv g hp a w h1 h3) (k1 g hp a w h1 h2 h3), k2⟩
    · obtain ⟨x, env1, t1, nx1, k1, k2⟩ := i2 _ _ _ _ _ _ hr hok.2 k
      exact ⟨x, env1, t1, nx1, fun g hp a w h1 h2 h3 => wp_cond_false (ev _ hv g hp a w h1 h3) (k1 g hp a w h1 h2 h3), k2⟩
  | block id c1 i1 =>
    intro env t nx kn ko r hr hok h
    have h' : (ccOf T ng ann c1).run call N env t nx kn (fun x env t nx => xR x id (kn env t nx) (ko x env t nx)) = r := h
    obtain ⟨x1, env1, t1, nx1, k1, k2⟩ := i1 _ _ _ _ _ _ hr hok h'
    cases x1 with
    | nrm =>
      refine ⟨.nrm, env1, t1, nx1, fun g hp a w h1 h2 h3 => wp_block (wp_mono (k1 g hp a w h1 h2 h3) fun e a1 w1 ⟨he, g1, hp1, st, ha⟩ => ?_), k2⟩
      subst he; exact ⟨rfl, g1, hp1, st, ha⟩
    | ret =>
      refine ⟨.ret, env1, t1, nx1, fun g hp a w h1 h2 h3 => wp_block (wp_mono (k1 g hp a w h1 h2 h3) fun e a1 w1 ⟨he, g1, hp1, st, ha⟩ => ?_), k2⟩
      subst he; exact ⟨rfl, g1, hp1, st, ha⟩
    | ex i =>
      have k2 : ite' (Nat.beq i id) (kn env1 t1 nx1) (ko (.ex i) env1 t1 nx1) = r := k2
      rw [ite'_eq] at k2
      split at k2
      · rename_i e
        refine ⟨.nrm, env1, t1, nx1, fun g hp a w h1 h2 h3 => wp_block (wp_mono (k1 g hp a w h1 h2 h3) fun e' a1 w1 ⟨he, g1, hp1, st, ha⟩ => ?_), k2⟩
        subst he
        simp only [X.exit, Exit.inBlock]
        rw [if_pos (beq_iff.1 e)]
        exact ⟨rfl, g1, hp1, st, ha⟩
      · rename_i e
        refine ⟨.ex i, env1, t1, nx1, fun g hp a w h1 h2 h3 => wp_block (wp_mono (k1 g hp a w h1 h2 h3) fun e' a1 w1 ⟨he, g1, hp1, st, ha⟩ => ?_), k2⟩
        subst he
        simp only [X.exit, Exit.inBlock]
        rw [if_neg (fun e' => e (beq_iff.2 e'))]
        exact ⟨rfl, g1, hp1, st, ha⟩
  | loop c1 i1 =>
    intro env t nx kn ko r hr hok h
    have h' : loopR (ccOf T ng ann c1) call N N env t nx kn ko = r := h
    obtain ⟨x, env1, t1, nx1, _, k1, k2⟩ := loopR_ok (P := P) (w0 := w0) (nt := nt) (c := c1) (fun env t nx kn ko r hr h => i1 env t nx kn ko r hr hok h) N _ _ _ _ _ _ hr h'
    exact ⟨x, env1, t1, nx1, fun g hp a w h1 h2 h3 => (k1 g hp a w h1 h2 h3).wp, k2⟩
  | _ => intro env t nx kn ko r hr _ h; exact absurd h (hr _)

/-! calls -/
theorem okF_ok {r : R} {K : X → Tr V → Tr Obj → B → FR} {r' : FR} (h : okF r K = r') (hr : ∀ n, FR.bad n ≠ r') : ∃ x env t nx, r = .ok x env t nx ∧ K x env t nx = r' := by
  cases r with
  | bad n => exact absurd h (hr n)
  | ok x env t nx => exact ⟨x, env, t, nx, rfl, h⟩
theorem optF_ok {o : Option FC} {K : FC → FR} {n : Nat} {r : FR} (h : optF o K n = r) (hr : ∀ n, FR.bad n ≠ r) : ∃ fc, o = some fc ∧ K fc = r := by
  cases o with
  | none => exact absurd h (hr n)
  | some v => exact ⟨v, rfl, h⟩
theorem entL_eq : ∀ (args : List V) (i : Nat) (env : Tr V) (K : Tr V → R), entL args i env K = K (putN args env i)
  | [], _, _, _ => rfl
  | v :: vs, i, env, K => by
    show (bOf i).setK env (some v) (fun env => entL vs (i + 1) env K) = _
    rw [B.setK_eq, entL_eq vs]; rfl

/-- The functions made ready. -/
def FOKC (P : Program) (T : Nat → TE) (w0 : World) (ng : Nat) (F : Nat → Option FC) : Prop := ∀ f fc, F f = some fc → ∃ fe, fc = fcOf T ng fe ∧
  ∀ args t nx e v t' nx', fe.pre args t nx e = .ret v t' nx' → Comes P T w0 ng f args t nx v t' nx' ∨ (e = .ret v t' nx' ∧ BodyOK P T w0 ng f fe)
noncomputable def fcK (T : Nat → TE) (ng : Nat) (o : Option FE) : Option FC := match o with | some fe => some (fcOf T ng fe) | none => none
theorem FOKC.of {F : Nat → Option FE} (h : FOK P T w0 ng F) : FOKC P T w0 ng fun f => fcK T ng (F f) := fun f fc hf => by
  have hf : fcK T ng (F f) = some fc := hf
  cases hF : F f with
  | none => rw [hF] at hf; cases hf
  | some fe =>
    rw [hF] at hf
    exact ⟨fe, (Option.some.inj hf).symm, h f fe hF⟩
theorem callC_ok (hT : TOK P T) {F : Nat → Option FC} (hF : FOKC P T w0 ng F) (N : Nat) : ∀ n, CallOK P T w0 ng (callC T F ng N n)
  | 0 => fun f args t nx v t' nx' h => by cases h
  | n + 1 => fun f args t nx v t' nx' h => by
    have ih := callC_ok hT hF N n
    have hb : ∀ n, FR.bad n ≠ .ret v t' nx' := fun n h => by cases h
    obtain ⟨fc, hfc, k1⟩ := optF_ok h hb
    obtain ⟨fe, rfl, hfe⟩ := hF f fc hfc
    rcases hfe args t nx _ v t' nx' k1 with hct | ⟨k2, fn, e1, e2, e3, e4, e5, e6⟩
    · exact hct
    obtain ⟨x, env1, t1, nx1, k4, k5⟩ := okF_ok k2 hb
    have hbr : ∀ n, R.bad n ≠ .ok x env1 t1 nx1 := fun n h => by cases h
    have k4 : iteR (Nat.ble args.length fe.nt) (entL args 0 .lf fun env => (ccOf T ng fe.ann fe.body).run (callC T F ng N n) N env t nx (fun env t nx => .ok .nrm env t nx) (fun x env t nx => .ok x env t nx)) (.bad 119) = .ok x env1 t1 nx1 := k4
    rw [iteR_eq] at k4
    obtain ⟨hle, k3⟩ := ite'_ok k4 (hbr _)
    have hle := ble_iff.1 hle
    rw [entL_eq] at k3
    obtain ⟨x1, env2, t2, nx2, hct, k6⟩ := ccOf_ok (nt := fe.nt) hT ih N fe.body _ _ _ _ _ _ hbr e6 k3
    have k6 : R.ok x1 env2 t2 nx2 = .ok x env1 t1 nx1 := by cases x1 <;> exact k6
    cases k6
    exact .inl <| callT_of e1 e2 e3 e4 e5 hT hle hct k5
end
end Go.Sim
