/- Sim: code made ready for the kernel: closures, each worked out once. (Printed by a program, genp.py.) -/
import Derived.Test.YtjjiblgcmdbcoaaGreatDoorSimN6And
set_option linter.unusedVariables false
set_option linter.unusedSimpArgs false
set_option linter.all false
namespace Go.Sim
open Go Go.RowKit
open Go.Abs (TE TK SK TOK TFacts)

/-! eliminators at one type -/
noncomputable def boolR (v : V) (K : Bool → R) (e : R) : R :=
  V.rec (motive_1 := fun _ => (Bool → R) → R → R) (motive_2 := fun _ => PUnit) (fun x0 K _ => K x0) (fun _ _ _ e => e) (fun _ _ _ e => e) (fun _ e => e) (fun _ _ _ e => e) (fun _ e => e) (fun _ e => e) (fun _ _ _ _ _ _ e => e) (fun _ e => e) (fun _ _ e => e) (fun _ e => e) (fun _ _ _ _ _ _ e => e) (fun _ e => e) (fun _ _ _ _ e => e) (fun _ _ _ e => e) (fun _ _ _ e => e) (fun _ e => e) (fun _ e => e) PUnit.unit (fun _ _ _ _ => PUnit.unit) v K e

noncomputable def intR (v : V) (K : IntKind → Int → R) (e : R) : R :=
  V.rec (motive_1 := fun _ => (IntKind → Int → R) → R → R) (motive_2 := fun _ => PUnit) (fun _ _ e => e) (fun x0 x1 K _ => K x0 x1) (fun _ _ _ e => e) (fun _ e => e) (fun _ _ _ e => e) (fun _ e => e) (fun _ e => e) (fun _ _ _ _ _ _ e => e) (fun _ e => e) (fun _ _ e => e) (fun _ e => e) (fun _ _ _ _ _ _ e => e) (fun _ e => e) (fun _ _ _ _ e => e) (fun _ _ _ e => e) (fun _ _ _ e => e) (fun _ e => e) (fun _ e => e) PUnit.unit (fun _ _ _ _ => PUnit.unit) v K e

noncomputable def strR (v : V) (K : Nat → Nat → R) (e : R) : R :=
  V.rec (motive_1 := fun _ => (Nat → Nat → R) → R → R) (motive_2 := fun _ => PUnit) (fun _ _ e => e) (fun _ _ _ e => e) (fun x0 x1 K _ => K x0 x1) (fun _ e => e) (fun _ _ _ e => e) (fun _ e => e) (fun _ e => e) (fun _ _ _ _ _ _ e => e) (fun _ e => e) (fun _ _ e => e) (fun _ e => e) (fun _ _ _ _ _ _ e => e) (fun _ e => e) (fun _ _ _ _ e => e) (fun _ _ _ e => e) (fun _ _ _ e => e) (fun _ e => e) (fun _ e => e) PUnit.unit (fun _ _ _ _ => PUnit.unit) v K e

noncomputable def ptrR (v : V) (K : B → Nat → R) (e : R) : R :=
  V.rec (motive_1 := fun _ => (B → Nat → R) → R → R) (motive_2 := fun _ => PUnit) (fun _ _ e => e) (fun _ _ _ e => e) (fun _ _ _ e => e) (fun _ e => e) (fun x0 x1 K _ => K x0 x1) (fun _ e => e) (fun _ e => e) (fun _ _ _ _ _ _ e => e) (fun _ e => e) (fun _ _ e => e) (fun _ e => e) (fun _ _ _ _ _ _ e => e) (fun _ e => e) (fun _ _ _ _ e => e) (fun _ _ _ e => e) (fun _ _ _ e => e) (fun _ e => e) (fun _ e => e) PUnit.unit (fun _ _ _ _ => PUnit.unit) v K e

noncomputable def slR (v : V) (K : B → Nat → Nat → Nat → (Option Nat) → R) (e : R) : R :=
  V.rec (motive_1 := fun _ => (B → Nat → Nat → Nat → (Option Nat) → R) → R → R) (motive_2 := fun _ => PUnit) (fun _ _ e => e) (fun _ _ _ e => e) (fun _ _ _ e => e) (fun _ e => e) (fun _ _ _ e => e) (fun _ e => e) (fun _ e => e) (fun x0 x1 x2 x3 x4 K _ => K x0 x1 x2 x3 x4) (fun _ e => e) (fun _ _ e => e) (fun _ e => e) (fun _ _ _ _ _ _ e => e) (fun _ e => e) (fun _ _ _ _ e => e) (fun _ _ _ e => e) (fun _ _ _ e => e) (fun _ e => e) (fun _ e => e) PUnit.unit (fun _ _ _ _ => PUnit.unit) v K e

noncomputable def aggR (v : V) (K : (List V) → R) (e : R) : R :=
  V.rec (motive_1 := fun _ => ((List V) → R) → R → R) (motive_2 := fun _ => PUnit) (fun _ _ e => e) (fun _ _ _ e => e) (fun _ _ _ e => e) (fun _ e => e) (fun _ _ _ e => e) (fun _ e => e) (fun _ e => e) (fun _ _ _ _ _ _ e => e) (fun _ e => e) (fun _ _ e => e) (fun _ e => e) (fun _ _ _ _ _ _ e => e) (fun _ e => e) (fun _ _ _ _ e => e) (fun x0 _ K _ => K x0) (fun _ _ _ e => e) (fun _ e => e) (fun _ e => e) PUnit.unit (fun _ _ _ _ => PUnit.unit) v K e

noncomputable def tupR (v : V) (K : (List V) → R) (e : R) : R :=
  V.rec (motive_1 := fun _ => ((List V) → R) → R → R) (motive_2 := fun _ => PUnit) (fun _ _ e => e) (fun _ _ _ e => e) (fun _ _ _ e => e) (fun _ e => e) (fun _ _ _ e => e) (fun _ e => e) (fun _ e => e) (fun _ _ _ _ _ _ e => e) (fun _ e => e) (fun _ _ e => e) (fun _ e => e) (fun _ _ _ _ _ _ e => e) (fun _ e => e) (fun _ _ _ _ e => e) (fun _ _ _ e => e) (fun x0 _ K _ => K x0) (fun _ e => e) (fun _ e => e) PUnit.unit (fun _ _ _ _ => PUnit.unit) v K e

noncomputable def i64R (v : V) (K : Int → R) (e : R) : R :=
  V.rec (motive_1 := fun _ => (Int → R) → R → R) (motive_2 := fun _ => PUnit) (fun _ _ e => e) (fun x0 x1 K e => IntKind.rec (motive := fun _ => Int → (Int → R) → R → R) (fun _ _ e => e) (fun _ _ e => e) (fun _ _ e => e) (fun n K _ => K n) (fun _ _ e => e) (fun _ _ e => e) (fun _ _ e => e) (fun _ _ e => e) x0 x1 K e) (fun _ _ _ e => e) (fun _ e => e) (fun _ _ _ e => e) (fun _ e => e) (fun _ e => e) (fun _ _ _ _ _ _ e => e) (fun _ e => e) (fun _ _ e => e) (fun _ e => e) (fun _ _ _ _ _ _ e => e) (fun _ e => e) (fun _ _ _ _ e => e) (fun _ _ _ e => e) (fun _ _ _ e => e) (fun _ e => e) (fun _ e => e) PUnit.unit (fun _ _ _ _ => PUnit.unit) v K e

noncomputable def one1R (v : V) (K : V → R) (e : R) : R :=
  V.rec (motive_1 := fun _ => (V → R) → R → R) (motive_2 := fun _ => PUnit) (fun x0 K _ => K (.bool x0)) (fun x0 x1 K _ => K (.int x0 x1)) (fun x0 x1 K _ => K (.str x0 x1)) (fun K _ => K (.nilp)) (fun x0 x1 K _ => K (.ptr x0 x1)) (fun K _ => K (.nils)) (fun K _ => K (.emps)) (fun x0 x1 x2 x3 x4 K _ => K (.sl x0 x1 x2 x3 x4)) (fun K _ => K (.nilm)) (fun x0 K _ => K (.map x0)) (fun K _ => K (.nilf)) (fun x0 x1 x2 _ _ K _ => K (.fn x0 x1 x2)) (fun K _ => K (.nili)) (fun x0 x1 _ K _ => K (.ifc x0 x1)) (fun _ _ _ e => e) (fun _ _ _ e => e) (fun _ e => e) (fun _ e => e) PUnit.unit (fun _ _ _ _ => PUnit.unit) v K e

theorem boolR_eq (v : V) (K : Bool → R) (e : R) : boolR v K e = asBool v K e := by cases v <;> rfl
theorem intR_eq (v : V) (K : IntKind → Int → R) (e : R) : intR v K e = asInt v K e := by cases v <;> rfl
theorem strR_eq (v : V) (K : Nat → Nat → R) (e : R) : strR v K e = asStr v K e := by cases v <;> rfl
theorem ptrR_eq (v : V) (K : B → Nat → R) (e : R) : ptrR v K e = asPtr v K e := by cases v <;> rfl
theorem slR_eq (v : V) (K : B → Nat → Nat → Nat → (Option Nat) → R) (e : R) : slR v K e = asSl v K e := by cases v <;> rfl
theorem aggR_eq (v : V) (K : (List V) → R) (e : R) : aggR v K e = asAgg v K e := by cases v <;> rfl
theorem tupR_eq (v : V) (K : (List V) → R) (e : R) : tupR v K e = asTup v K e := by cases v <;> rfl
noncomputable def fN (m : Nat) (K : Nat → R) : R := Nat.rec (motive := fun _ => (Nat → R) → R) (fun K => K 0) (fun p _ K => K (Nat.succ p)) m K
noncomputable def iteR (b : Bool) (x y : R) : R := Bool.rec (motive := fun _ => R) y x b
noncomputable def bR (b : Bool) (K : V → R) : R := Bool.rec (motive := fun _ => (V → R) → R) (fun K => K (.bool false)) (fun K => K (.bool true)) b K
noncomputable def bnR (b : Bool) (K : V → R) : R := Bool.rec (motive := fun _ => (V → R) → R) (fun K => K (.bool true)) (fun K => K (.bool false)) b K
noncomputable def natR (i : Int) (K : Nat → R) (e : R) : R := Int.rec (motive := fun _ => (Nat → R) → R → R) (fun m K _ => K m) (fun _ _ e => e) i K e
noncomputable def optV (o : Option V) (K : V → R) (e : R) : R := Option.rec (motive := fun _ => (V → R) → R → R) (fun _ e => e) (fun v K _ => K v) o K e
noncomputable def blk1 (o : Obj) (K : Bool → Nat → Nat → Tr V → R) (e : R) : R := Obj.rec (motive := fun _ => (Bool → Nat → Nat → Tr V → R) → R → R) (fun ro sz hi cs K _ => K ro sz hi cs) (fun _ _ _ e => e) o K e
noncomputable def blkR (o : Option Obj) (K : Bool → Nat → Nat → Tr V → R) (e : R) : R := Option.rec (motive := fun _ => (Bool → Nat → Nat → Tr V → R) → R → R) (fun _ e => e) blk1 o K e
noncomputable def orAny (o : Option V) : V := Option.rec (motive := fun _ => V) .any (fun v => v) o

theorem fN_eq (m : Nat) (K : Nat → R) : fN m K = K m := by cases m <;> rfl
theorem iteR_eq (b : Bool) (x y : R) : iteR b x y = ite' b x y := rfl
theorem bR_eq (b : Bool) (K : V → R) : bR b K = K (.bool b) := by cases b <;> rfl
theorem bnR_eq (b : Bool) (K : V → R) : bnR b K = K (.bool (!b)) := by cases b <;> rfl
theorem optV_eq (o : Option V) (K : V → R) (e : R) : optV o K e = Option.rec (motive := fun _ => R) e (fun v => K v) o := by cases o <;> rfl
theorem blkR_eq (o : Option Obj) (K : Bool → Nat → Nat → Tr V → R) (e : R) : blkR o K e = asBlk o K e := by rcases o with _ | ⟨ro, sz, hi, cs⟩ | ⟨kt, es⟩ <;> rfl

/-! operands -/
structure OV where
  run : Tr V → V
noncomputable def ovG (b : Bool) (g : Nat) : OV := Bool.rec (motive := fun _ => OV) ⟨fun _ => .any⟩ ⟨fun _ => .ptr ⟨g⟩ 0⟩ b
noncomputable def ovOf (ng : Nat) (x : Operand) : OV := match x with
  | .tmp t => ⟨fun env => orAny ((lnT V t).get env)⟩
  | .const v => ⟨fun _ => cV v⟩
  | .global g => ovG (Nat.blt g ng) g
  | .func f => ⟨fun _ => .fn f [] []⟩
theorem ovOf_eq (ng : Nat) (x : Operand) (env : Tr V) : (ovOf ng x).run env = opV ng env x := by
  cases x with
  | tmp t =>
    show orAny ((bOf t).get env) = match (bOf t).get env with | some v => v | none => .any
    cases (bOf t).get env <;> rfl
  | const v => rfl
  | global g =>
    show (ovG (Nat.blt g ng) g).run env = _
    simp only [opV]
    cases h : Nat.blt g ng with
    | true => rw [if_pos (blt_iff.1 h)]; rfl
    | false => rw [if_neg (fun e => by rw [blt_iff.2 e] at h; cases h)]; rfl
  | func f => rfl
noncomputable def ovs (ng : Nat) : List Operand → Tr V → List V
  | [], _ => []
  | x :: xs, env => (ovOf ng x).run env :: ovs ng xs env
theorem ovs_eq (ng : Nat) (env : Tr V) : ∀ xs : List Operand, ovs ng xs env = xs.map (opV ng env)
  | [] => rfl
  | x :: xs => by rw [ovs, ovOf_eq, ovs_eq ng env xs]; rfl

/-! operations -/
structure HC where
  run : Cl → Tr V → Tr Obj → B → KV → R
/-- Any operation. -/
noncomputable def slow (T : Nat → TE) (ng : Nat) (op : Op) : HC := ⟨fun call env t nx K => opVs (opnds op) ng env fun vals => opH op ng T call vals t nx K⟩
/-- What is owed of a ready operation. -/
def HC.For (h : HC) (T : Nat → TE) (ng : Nat) (op : Op) : Prop := ∀ call env t nx K, h.run call env t nx K = opVs (opnds op) ng env fun vals => opH op ng T call vals t nx K

abbrev IF := Int → Int → (V → R) → R → R
noncomputable def addF : IF := fun x y K e => natR x (fun m => natR y (fun n => iteR (Nat.blt (Nat.add m n) 9223372036854775808) (fN (Nat.add m n) fun s => K (.int .i64 (.ofNat s))) e) e) e
noncomputable def subF : IF := fun x y K e => natR x (fun m => natR y (fun n => iteR (and (Nat.ble n m) (Nat.blt m 9223372036854775808)) (fN (Nat.sub m n) fun s => K (.int .i64 (.ofNat s))) e) e) e
noncomputable def cmpF (p : Nat → Nat → Bool) : IF := fun x y K e => natR x (fun m => natR y (fun n => bR (p m n) K) e) e
noncomputable def cmnF (p : Nat → Nat → Bool) : IF := fun x y K e => natR x (fun m => natR y (fun n => bnR (p m n) K) e) e
structure IC where
  run : IF
noncomputable def icOf (op : BinOp) : IC := match op with
  | .add => ⟨addF⟩
  | .sub => ⟨subF⟩
  | .eql => ⟨cmpF Nat.beq⟩
  | .neq => ⟨cmnF Nat.beq⟩
  | .lss => ⟨cmpF Nat.blt⟩
  | .leq => ⟨cmpF Nat.ble⟩
  | .gtr => ⟨cmpF fun m n => Nat.blt n m⟩
  | .geq => ⟨cmpF fun m n => Nat.ble n m⟩
  | _ => ⟨fun _ _ _ e => e⟩
theorem wrap_i64 {n : Nat} (h : n < 9223372036854775808) (K : Int → R) : wrapK .i64 (.ofNat n) K = K (.ofNat n) := by
  rw [wrapK_eq, inR_spec (k := .i64) (n := .ofNat n) (blt_iff.2 h)]
theorem ltI_nat (m n : Nat) : ltI (.ofNat m) (.ofNat n) = Nat.blt m n := by
  rw [ltI_eq, Bool.eq_iff_iff, blt_iff]
  simp
theorem ble_blt (m n : Nat) : Nat.ble m n = !Nat.blt n m := by
  rw [Bool.eq_iff_iff, Bool.not_eq_true', ← Bool.not_eq_true, blt_iff, ble_iff]
  omega
theorem icOf_ok (op : BinOp) (x y : Int) (K : V → R) : (icOf op).run x y K (opI op .i64 x .i64 y K) = opI op .i64 x .i64 y K := by
  cases op <;> try rfl
  all_goals cases x <;> try rfl
  all_goals cases y <;> try rfl
  all_goals rename_i m n
  case add =>
    show ite' (Nat.blt (m + n) 9223372036854775808) (fN (m + n) fun s => K (.int .i64 (.ofNat s))) (opI .add .i64 (.ofNat m) .i64 (.ofNat n) K) = _
    rw [ite'_eq, fN_eq]
    split
    · rename_i h
      exact (wrap_i64 (blt_iff.1 h) fun n => K (.int .i64 n)).symm
    · rfl
  case sub =>
    show ite' (and (Nat.ble n m) (Nat.blt m 9223372036854775808)) (fN (m - n) fun s => K (.int .i64 (.ofNat s))) (opI .sub .i64 (.ofNat m) .i64 (.ofNat n) K) = _
    rw [ite'_eq, fN_eq]
    split
    · rename_i h
      obtain ⟨h1, h2⟩ := and_ok h
      have h1 := ble_iff.1 h1
      have h2 := blt_iff.1 h2
      have e : Int.sub (.ofNat m) (.ofNat n) = .ofNat (m - n) := by
        show (m : Int) - (n : Int) = ((m - n : Nat) : Int)
        omega
      show _ = wrapK .i64 (Int.sub (.ofNat m) (.ofNat n)) fun n => K (.int .i64 n)
      rw [e, wrap_i64 (by omega)]
    · rfl
  case eql =>
    show bR (Nat.beq m n) K = forceB (Nat.beq m n) fun x => K (.bool x)
    rw [bR_eq, forceB_eq]
  case neq =>
    show bnR (Nat.beq m n) K = forceB (!(Nat.beq m n)) fun x => K (.bool x)
    rw [bnR_eq, forceB_eq]
  case lss =>
    show bR (Nat.blt m n) K = forceB (ltI (.ofNat m) (.ofNat n)) fun x => K (.bool x)
    rw [bR_eq, forceB_eq, ltI_nat]
  case leq =>
    show bR (Nat.ble m n) K = forceB (!(ltI (.ofNat n) (.ofNat m))) fun x => K (.bool x)
    rw [bR_eq, forceB_eq, ltI_nat, ble_blt]
  case gtr =>
    show bR (Nat.blt n m) K = forceB (ltI (.ofNat n) (.ofNat m)) fun x => K (.bool x)
    rw [bR_eq, forceB_eq, ltI_nat]
  case geq =>
    show bR (Nat.ble n m) K = forceB (!(ltI (.ofNat m) (.ofNat n))) fun x => K (.bool x)
    rw [bR_eq, forceB_eq, ltI_nat, ble_blt]

/-- Two operands. -/
noncomputable def binC (T : Nat → TE) (ng : Nat) (op : BinOp) (ty : Nat) (ic : IC) (a b : OV) : HC :=
  ⟨fun _ env t nx K => i64R (a.run env) (fun x => i64R (b.run env) (fun y => ic.run x y (fun v => K v t nx) (binV (a.run env) (T ty) (opI op) (opS op) (opE op) (b.run env) fun v => K v t nx))
      (binV (a.run env) (T ty) (opI op) (opS op) (opE op) (b.run env) fun v => K v t nx)) (binV (a.run env) (T ty) (opI op) (opS op) (opE op) (b.run env) fun v => K v t nx)⟩
noncomputable def eqStr (a b : V) (K : V → R) (e : R) : R := strR a (fun l n => strR b (fun l' n' => iteR (Nat.beq l l') (bR (Nat.beq n n') K) (K (.bool false))) e) e
noncomputable def neStr (a b : V) (K : V → R) (e : R) : R := strR a (fun l n => strR b (fun l' n' => iteR (Nat.beq l l') (bnR (Nat.beq n n') K) (K (.bool true))) e) e
noncomputable def binS (T : Nat → TE) (ng : Nat) (op : BinOp) (ty : Nat) (f : V → V → (V → R) → R → R) (a b : OV) : HC :=
  ⟨fun _ env t nx K => f (a.run env) (b.run env) (fun v => K v t nx) (binV (a.run env) (T ty) (opI op) (opS op) (opE op) (b.run env) fun v => K v t nx)⟩
noncomputable def hcBin (T : Nat → TE) (ng : Nat) (op : BinOp) (ty : Nat) (a b : OV) : HC := match (T ty).k with
  | .str => (match op with
    | .eql => binS T ng op ty eqStr a b
    | .neq => binS T ng op ty neStr a b
    | _ => binC T ng op ty (icOf op) a b)
  | _ => binC T ng op ty (icOf op) a b
noncomputable def hcMove (x : OV) : HC := ⟨fun _ env t nx K => K (x.run env) t nx⟩
noncomputable def hcLoad (T : Nat → TE) (ng ty : Nat) (x : Operand) (p : OV) : HC := match (T ty).k with
  | .none => slow T ng (.load ty x)
  | .agg _ => ⟨fun _ env t nx K => ptrR (p.run env) (fun id off => blkR (id.get t) (fun _ _ _ cs => getN (T ty).size cs off (fun vs => K (.agg vs) t nx) (.bad 2)) (.bad 3)) (.bad 4)⟩
  | .arr _ _ => slow T ng (.load ty x)
  | _ => ⟨fun _ env t nx K => ptrR (p.run env) (fun id off => blkR (id.get t) (fun _ _ _ cs => optV ((lnT V off).get cs) (fun v => K v t nx) (.bad 2)) (.bad 3)) (.bad 4)⟩
noncomputable def maxK (a b : Nat) (K : Nat → R) : R := iteR (Nat.ble a b) (K b) (K a)
/-- One cell written. -/
noncomputable def put1 (id : B) (off : Nat) (v : V) (t : Tr Obj) (K : Tr Obj → R) (e : R) : R :=
  blkR (id.get t) (fun ro sz hi cs => iteR ro e (fN (Nat.add off 1) fun en => iteR (Nat.ble en sz) ((lkT V R off).set cs (some v) fun cs' => maxK hi en fun hi' => (lkT Obj R id.n).set t (some (.blk false sz hi' cs')) K) e)) e
noncomputable def hcStore (T : Nat → TE) (ng ty : Nat) (x y : Operand) (p v : OV) : HC := match and (Abs.TE.known (T ty)) (Nat.beq (T ty).size 1) with
  | true => ⟨fun call env t nx K => one1R (v.run env) (fun v => ptrR (p.run env) (fun id off => put1 id off v t (fun t' => K .any t' nx) (.bad 5)) (.bad 7)) ((slow T ng (.store ty x y)).run call env t nx K)⟩
  | false => slow T ng (.store ty x y)
noncomputable def trS (vs : List V) : Tr V := setN (R := Tr V) vs .lf 0 fun x => x
structure TrC where
  n : Nat
  tr : Tr V
noncomputable def trC (vs : List V) : TrC := Nat.rec (motive := fun _ => TrC) ⟨0, .lf⟩ (fun n _ => ⟨Nat.succ n, trS vs⟩) vs.length
noncomputable def newB (n : Nat) (cs : Tr V) (t : Tr Obj) (nx : B) (K : KV) : R := (lkT Obj R nx.n).set t (some (.blk false n n cs)) fun t' => B.incK nx fun nx' => K (.ptr nx 0) t' nx'
noncomputable def hcAlloc (T : Nat → TE) (ng ty : Nat) : HC := match and (Abs.TE.known (T ty)) (List.all (cellsOf (cV (T ty).zero)) one) with
  | true => ⟨fun _ _ t nx K => newB (trC (cellsOf (cV (T ty).zero))).n (trC (cellsOf (cV (T ty).zero))).tr t nx K⟩
  | false => slow T ng (.alloc ty)
noncomputable def hcFA (T : Nat → TE) (ng ty f : Nat) (x : Operand) (p : OV) : HC := match fieldOf (T ty).k f with
  | some (fo, fsz, _) => (match Nat.blt 0 fsz with
    | true => ⟨fun _ env t nx K => ptrR (p.run env) (fun id off => fN (Nat.add off fo) fun o => K (.ptr id o) t nx) (.bad 8)⟩
    | false => slow T ng (.fieldAddr ty x f))
  | none => slow T ng (.fieldAddr ty x f)
noncomputable def intR' (v : V) (K : Int → R) (e : R) : R := intR v (fun _ i => K i) e
noncomputable def hcIA (T : Nat → TE) (ng ty : Nat) (x i : Operand) (px pi : OV) : HC := match (T ty).k with
  | .slc e => (match Abs.TE.known (T e) with
    | true => ⟨fun call env t nx K => slR (px.run env) (fun id sz off len _ => intR' (pi.run env) (fun i => iteR (Nat.beq sz (T e).size) (natR i (fun m => iteR (Nat.blt m len) (fN (Nat.add off (Nat.mul m sz)) fun o => K (.ptr id o) t nx) (.bad 11)) (.bad 11)) (.bad 12)) (.bad 13)) (.bad 13)⟩
    | false => slow T ng (.indexAddr ty x i))
  | _ => slow T ng (.indexAddr ty x i)
noncomputable def hcLen (T : Nat → TE) (ng : Nat) (op : Op) (ty : Nat) (x : OV) : HC := match (T ty).k with
  | .slc _ => ⟨fun call env t nx K => slR (x.run env) (fun _ _ _ l _ => K (.int .i64 (.ofNat l)) t nx) ((slow T ng op).run call env t nx K)⟩
  | .str => ⟨fun call env t nx K => strR (x.run env) (fun l _ => K (.int .i64 (.ofNat l)) t nx) ((slow T ng op).run call env t nx K)⟩
  | _ => slow T ng op
noncomputable def nthV (i : Nat) : List V → (V → R) → R → R :=
  Nat.rec (motive := fun _ => List V → (V → R) → R → R) (fun l => List.rec (motive := fun _ => (V → R) → R → R) (fun _ e => e) (fun v _ _ K _ => K v) l)
    (fun _ ih l => List.rec (motive := fun _ => (V → R) → R → R) (fun _ e => e) (fun _ l _ K e => ih l K e) l) i
noncomputable def hcExtract (i : Nat) (x : OV) : HC := ⟨fun _ env t nx K => tupR (x.run env) (fun vs => nthV i vs (fun v => K v t nx) (.bad 104)) (.bad 105)⟩
noncomputable def frR (r : FR) (K : V → Tr Obj → B → R) : R := FR.rec (motive := fun _ => (V → Tr Obj → B → R) → R) (fun n _ => .bad n) (fun v t nx K => K v t nx) r K
structure OVs where
  run : Tr V → List V
noncomputable def ovsOf (ng : Nat) : List Operand → OVs
  | [] => ⟨fun _ => []⟩
  | x :: xs => ⟨fun env => (ovOf ng x).run env :: (ovsOf ng xs).run env⟩
noncomputable def hcCall (f : Nat) (xs : OVs) : HC := ⟨fun call env t nx K => frR (call f (xs.run env) t nx) K⟩
noncomputable def hcStrIx (T : Nat → TE) (ng ty : Nat) (x i : Operand) (px pi : OV) : HC := match (T ty).k with
  | .str => ⟨fun _ env t nx K => strR (px.run env) (fun l n => intR' (pi.run env) (fun i => natR i (fun m => iteR (Nat.blt m l) (fN (Nat.mod (Nat.shiftRight n (Nat.mul 8 (Nat.sub (Nat.sub l 1) m))) 256) fun c => K (.int .u8 (.ofNat c)) t nx) (.bad 17)) (.bad 17)) (.bad 18)) (.bad 18)⟩
  | _ => slow T ng (.index ty x i)
/-- An operation made ready. -/
noncomputable def hcOf (T : Nat → TE) (ng : Nat) (op : Op) : HC := match op with
  | .move x => hcMove (ovOf ng x)
  | .assign x => hcMove (ovOf ng x)
  | .alloc ty => hcAlloc T ng ty
  | .load ty x => hcLoad T ng ty x (ovOf ng x)
  | .store ty x y => hcStore T ng ty x y (ovOf ng x) (ovOf ng y)
  | .binOp op ty x y _ => hcBin T ng op ty (ovOf ng x) (ovOf ng y)
  | .fieldAddr ty x f => hcFA T ng ty f x (ovOf ng x)
  | .indexAddr ty x i => hcIA T ng ty x i (ovOf ng x) (ovOf ng i)
  | .index ty x i => hcStrIx T ng ty x i (ovOf ng x) (ovOf ng i)
  | .extract x i => hcExtract i (ovOf ng x)
  | .call c => (match c.callee, c.args.toList, c.argTypes.toList with
    | .value (.func f), as, _ => hcCall f (ovsOf ng as)
    | .builtin .len, [x], [ty] => hcLen T ng (.call c) ty (ovOf ng x)
    | _, _, _ => slow T ng (.call c))
  | op => slow T ng op

/-! regions -/
structure OC where
  run : Cl → Tr V → Tr Obj → B → KE → R
structure PT where
  run : Tr V → V → (Tr V → R) → R
noncomputable def ptOf (dst : Option Tmp) : PT := match dst with
  | none => ⟨fun env _ K => K env⟩
  | some d => ⟨fun env v K => (lkT V R d).set env (some v) K⟩
noncomputable def ocP (h : HC) (p : PT) : OC := ⟨fun call env t nx k => h.run call env t nx fun v t nx => p.run env v fun env => k env t nx⟩
noncomputable def ocG (h : HC) (p : PT) (x : OV) (want : Bool) : OC := ⟨fun call env t nx k =>
  boolR (x.run env) (fun b => iteR (eqBo b want) (h.run call env t nx fun v t nx => p.run env v fun env => k env t nx) (p.run env .undef fun env => k env t nx))
    (isUndef (x.run env) (p.run env .undef fun env => k env t nx) (.bad 112))⟩
noncomputable def ocBad : OC := ⟨fun _ _ _ _ _ => .bad 113⟩
noncomputable def ocOf (T : Nat → TE) (ng : Nat) (all : List Oper) (o : Oper) : OC := match o.guard with
  | none => ocP (hcOf T ng o.op) (ptOf o.dst)
  | some (j, want) => (match all[j]? with
    | some oj => (match oj.dst with
      | some d => ocG (hcOf T ng o.op) (ptOf o.dst) (ovOf ng (.tmp d)) want
      | none => ocBad)
    | none => ocBad)
noncomputable def ocNil : OC := ⟨fun _ env t nx k => k env t nx⟩
noncomputable def ocCons (a b : OC) : OC := ⟨fun call env t nx k => a.run call env t nx fun env t nx => b.run call env t nx k⟩
noncomputable def rcOf (T : Nat → TE) (ng : Nat) (all : List Oper) : List Oper → OC
  | [] => ocNil
  | o :: os => ocCons (ocOf T ng all o) (rcOf T ng all os)

/-! drawn regions -/
structure DC where
  run : Cl → Tr V → Tr Obj → B → List (Tr Obj × B) → KE → R
noncomputable def hdR (hs : List (Tr Obj × B)) (K : Tr Obj → B → R) : R := List.rec (motive := fun _ => (Tr Obj → B → R) → R) (fun _ => .bad 130) (fun h _ _ K => Prod.rec (motive := fun _ => (Tr Obj → B → R) → R) (fun t nx K => K t nx) h K) hs K
/-- A quiet operation, no further back than the last phase. -/
noncomputable def hcQ0 (h : HC) (hs : List (Tr Obj × B)) : HC := ⟨fun call env t nx K => hdR hs fun t0 nx0 => h.run call env t0 nx0 fun v _ _ => K v t nx⟩
noncomputable def slowQ (T : Nat → TE) (ng : Nat) (op : Op) (back : Nat) (hs : List (Tr Obj × B)) : HC := ⟨fun call env t nx K => opVs (opnds op) ng env fun vals => atAll back hs (opH op ng) T call vals t nx K⟩
noncomputable def ocOfH (ng : Nat) (all : List Oper) (o : Oper) (h : HC) : OC := match o.guard with
  | none => ocP h (ptOf o.dst)
  | some (j, want) => (match all[j]? with
    | some oj => (match oj.dst with
      | some d => ocG h (ptOf o.dst) (ovOf ng (.tmp d)) want
      | none => ocBad)
    | none => ocBad)
noncomputable def dcNil : DC := ⟨fun _ env t nx _ k => k env t nx⟩
noncomputable def dcQ0 (ng : Nat) (all : List Oper) (o : Oper) (h : HC) (b : DC) : DC := match o.guard with
  | none => (match ptOf o.dst with | p => ⟨fun call env t nx hs k => hdR hs fun t0 nx0 => h.run call env t0 nx0 fun v _ _ => p.run env v fun env => b.run call env t nx hs k⟩)
  | some _ => ⟨fun call env t nx hs k => (ocOfH ng all o (hcQ0 h hs)).run call env t nx fun env t nx => b.run call env t nx hs k⟩
noncomputable def dcQ (T : Nat → TE) (ng : Nat) (all : List Oper) (o : Oper) (back : Nat) (b : DC) : DC :=
  ⟨fun call env t nx hs k => (ocOfH ng all o (slowQ T ng o.op back hs)).run call env t nx fun env t nx => b.run call env t nx hs k⟩
noncomputable def dcZ (a : OC) (b : DC) : DC := ⟨fun call env t nx hs k => a.run call env t nx fun env t nx => b.run call env t nx hs k⟩
noncomputable def dcC (a : OC) (b : DC) : DC := ⟨fun call env t nx hs k => a.run call env t nx fun env t nx => b.run call env t nx ((t, nx) :: hs) k⟩
noncomputable def dcBad : DC := ⟨fun _ _ _ _ _ _ => .bad 132⟩
noncomputable def dcBad' : DC := ⟨fun _ _ _ _ _ _ => .bad 133⟩
noncomputable def dcOf (T : Nat → TE) (ng : Nat) (all : List Oper) : List DI → DC
  | [] => dcNil
  | .q k back :: its => (match all[k]? with
    | some o => (match back with
      | 0 => dcQ0 ng all o (hcOf T ng o.op) (dcOf T ng all its)
      | back => dcQ T ng all o back (dcOf T ng all its))
    | none => dcBad)
  | .z k :: its => (match all[k]? with | some o => dcZ (ocOf T ng all o) (dcOf T ng all its) | none => dcBad)
  | .c k :: its => (match all[k]? with | some o => dcC (ocOf T ng all o) (dcOf T ng all its) | none => dcBad)
  | .f _ _ _ _ :: _ => dcBad'
/-- A drawn region. -/
noncomputable def drOf (T : Nat → TE) (ng : Nat) (all : List Oper) (its : List DI) : OC := match its with
  | .f m n a b :: rest => ⟨fun call env t nx k => runF m n a b rest all T call ng env t nx k⟩
  | its => ⟨fun call env t nx k => (dcOf T ng all its).run call env t nx [(t, nx)] k⟩

/-! code -/
structure CC where
  run : Cl → Nat → Tr V → Tr Obj → B → KE → (X → KE) → R
noncomputable def xR (x : X) (id : Nat) (a b : R) : R := X.rec (motive := fun _ => Nat → R → R → R) (fun _ _ b => b) (fun i id a b => iteR (Nat.beq i id) a b) (fun _ _ b => b) x id a b
noncomputable def condR (v : V) (a b : R) (e : R) : R := boolR v (fun c => iteR c a b) e
noncomputable def loopR (c : CC) (call : Cl) (N : Nat) (n : Nat) : Tr V → Tr Obj → B → KE → (X → KE) → R :=
  Nat.rec (motive := fun _ => Tr V → Tr Obj → B → KE → (X → KE) → R) (fun _ _ _ _ _ => .bad 119) (fun _ ih env t nx kn ko => c.run call N env t nx (fun env t nx => ih env t nx kn ko) ko) n
noncomputable def ccOf (T : Nat → TE) (ng : Nat) (ann : Nat → List DI) (c : Code) : CC := match c with
  | .skip => ⟨fun _ _ env t nx kn _ => kn env t nx⟩
  | .ret => ⟨fun _ _ env t nx _ ko => ko .ret env t nx⟩
  | .exit id => ⟨fun _ _ env t nx _ ko => ko (.ex id) env t nx⟩
  | .region id ops d => (match d with
    | false => ⟨fun call _ env t nx kn _ => (rcOf T ng ops.toList ops.toList).run call env t nx kn⟩
    | true => ⟨fun call _ env t nx kn _ => (drOf T ng ops.toList (ann id)).run call env t nx kn⟩)
  | .seq a b => ⟨fun call N env t nx kn ko => (ccOf T ng ann a).run call N env t nx (fun env t nx => (ccOf T ng ann b).run call N env t nx kn ko) ko⟩
  | .cond x a b => ⟨fun call N env t nx kn ko => condR ((ovOf ng x).run env) ((ccOf T ng ann a).run call N env t nx kn ko) ((ccOf T ng ann b).run call N env t nx kn ko) (.bad 120)⟩
  | .block id c => ⟨fun call N env t nx kn ko => (ccOf T ng ann c).run call N env t nx kn (fun x env t nx => xR x id (kn env t nx) (ko x env t nx))⟩
  | .loop c => ⟨fun call N env t nx kn ko => loopR (ccOf T ng ann c) call N N env t nx kn ko⟩
  | _ => ⟨fun _ _ _ _ _ _ _ => .bad 121⟩

/-! functions -/
structure FC where
  pre : List V → Tr Obj → B → FR → FR
  nt : Nat
  cc : CC
  res : List ResultVar
noncomputable def fcOf (T : Nat → TE) (ng : Nat) (fe : FE) : FC := ⟨fe.pre, fe.nt, ccOf T ng fe.ann fe.body, fe.res⟩
noncomputable def entL (args : List V) : Nat → Tr V → (Tr V → R) → R :=
  List.rec (motive := fun _ => Nat → Tr V → (Tr V → R) → R) (fun _ env K => K env) (fun v _ ih i env K => (lkT V R i).set env (some v) fun env => ih (Nat.succ i) env K) args
noncomputable def okF (r : R) (K : X → Tr V → Tr Obj → B → FR) : FR := R.rec (motive := fun _ => (X → Tr V → Tr Obj → B → FR) → FR) (fun n _ => .bad n) (fun x env t nx K => K x env t nx) r K
noncomputable def optF (o : Option FC) (K : FC → FR) (n : Nat) : FR := Option.rec (motive := fun _ => (FC → FR) → Nat → FR) (fun _ n => .bad n) (fun v K _ => K v) o K n
/-- A call. -/
noncomputable def callC (T : Nat → TE) (F : Nat → Option FC) (ng N : Nat) (n : Nat) : Cl :=
  Nat.rec (motive := fun _ => Cl) (fun _ _ _ _ => .bad 119) (fun _ ih f args t nx => optF (F f) (fun fe => fe.pre args t nx
    (okF (iteR (Nat.ble args.length fe.nt) (entL args 0 .lf fun env => fe.cc.run ih N env t nx (fun env t nx => .ok .nrm env t nx) (fun x env t nx => .ok x env t nx)) (.bad 119)) fun x env t nx => endF x fe.res T ng env t nx)) (Nat.add 1000 f)) n
end Go.Sim
