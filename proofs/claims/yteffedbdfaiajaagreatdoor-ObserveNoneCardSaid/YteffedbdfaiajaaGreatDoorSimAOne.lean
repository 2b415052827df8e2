/- Sim: an interpreter of the model's code, to be evaluated by the kernel: blocks are known by ids, a capacity may be unknown, a map is a list. (Printed by a program, gen.py.) -/
import Derived.Test.YteffedbdfaiajaaGreatDoorSimTOne
set_option linter.unusedVariables false
set_option linter.unusedSimpArgs false
set_option linter.all false
namespace Go.Sim
open Go
open Go.Abs (TE TK SK)
inductive V where
 | bool (b:Bool)
 | int (k:IntKind) (n:Int)
 | str (l n:Nat)
 | dQ
 | ptr (id:B) (off:Nat)
 | aj
 | dW
 | sl (id:B) (sz off len:Nat) (cap:Option Nat)
 | eP
 | map (id:B)
 | eY
 | fn (f:Nat) (first caps:List V)
 | fE
 | ifc (t:Nat) (v:V)
 | agg (cs:List V)
 | tup (cs:List V)
 | undef
 | any
 deriving Inhabited
inductive Obj where
 | blk (ro:Bool) (sz hi:Nat) (cs:Tr V)
 | map (kt:Nat) (es:List (V×V))
inductive X where
 | nrm | ex (id:Nat) | ret
inductive R where
 | bad (why:Nat)
 | ok (x:X) (env:Tr V) (t:Tr Obj) (nx:B)
inductive FR where
 | bad (why:Nat)
 | ret (v:V) (t:Tr Obj) (nx:B)
noncomputable def asBool {α:Type} (v:V):(Bool→α)→α→α:=
 V.rec (motive_1:=fun _=>(Bool→α)→α→α) (motive_2:=fun _=>PUnit) (fun x0=>fun K _=>K x0) (fun _ _=>fun _ e=>e) (fun _ _=>fun _ e=>e) (fun _ e=>e) (fun _ _=>fun _ e=>e) (fun _ e=>e) (fun _ e=>e) (fun _ _ _ _ _=>fun _ e=>e) (fun _ e=>e) (fun _=>fun _ e=>e) (fun _ e=>e) (fun _ _ _ _ _=>fun _ e=>e) (fun _ e=>e) (fun _ _ _=>fun _ e=>e) (fun _ _=>fun _ e=>e) (fun _ _=>fun _ e=>e) (fun _ e=>e) (fun _ e=>e) PUnit.unit (fun _ _ _ _=>PUnit.unit) v
noncomputable def asInt {α:Type} (v:V):(IntKind→Int→α)→α→α:=
 V.rec (motive_1:=fun _=>(IntKind→Int→α)→α→α) (motive_2:=fun _=>PUnit) (fun _=>fun _ e=>e) (fun x0 x1=>fun K _=>K x0 x1) (fun _ _=>fun _ e=>e) (fun _ e=>e) (fun _ _=>fun _ e=>e) (fun _ e=>e) (fun _ e=>e) (fun _ _ _ _ _=>fun _ e=>e) (fun _ e=>e) (fun _=>fun _ e=>e) (fun _ e=>e) (fun _ _ _ _ _=>fun _ e=>e) (fun _ e=>e) (fun _ _ _=>fun _ e=>e) (fun _ _=>fun _ e=>e) (fun _ _=>fun _ e=>e) (fun _ e=>e) (fun _ e=>e) PUnit.unit (fun _ _ _ _=>PUnit.unit) v
noncomputable def gU {α:Type} (v:V):(Nat→Nat→α)→α→α:=
 V.rec (motive_1:=fun _=>(Nat→Nat→α)→α→α) (motive_2:=fun _=>PUnit) (fun _=>fun _ e=>e) (fun _ _=>fun _ e=>e) (fun x0 x1=>fun K _=>K x0 x1) (fun _ e=>e) (fun _ _=>fun _ e=>e) (fun _ e=>e) (fun _ e=>e) (fun _ _ _ _ _=>fun _ e=>e) (fun _ e=>e) (fun _=>fun _ e=>e) (fun _ e=>e) (fun _ _ _ _ _=>fun _ e=>e) (fun _ e=>e) (fun _ _ _=>fun _ e=>e) (fun _ _=>fun _ e=>e) (fun _ _=>fun _ e=>e) (fun _ e=>e) (fun _ e=>e) PUnit.unit (fun _ _ _ _=>PUnit.unit) v
noncomputable def gW {α:Type} (v:V):(B→Nat→α)→α→α:=
 V.rec (motive_1:=fun _=>(B→Nat→α)→α→α) (motive_2:=fun _=>PUnit) (fun _=>fun _ e=>e) (fun _ _=>fun _ e=>e) (fun _ _=>fun _ e=>e) (fun _ e=>e) (fun x0 x1=>fun K _=>K x0 x1) (fun _ e=>e) (fun _ e=>e) (fun _ _ _ _ _=>fun _ e=>e) (fun _ e=>e) (fun _=>fun _ e=>e) (fun _ e=>e) (fun _ _ _ _ _=>fun _ e=>e) (fun _ e=>e) (fun _ _ _=>fun _ e=>e) (fun _ _=>fun _ e=>e) (fun _ _=>fun _ e=>e) (fun _ e=>e) (fun _ e=>e) PUnit.unit (fun _ _ _ _=>PUnit.unit) v
noncomputable def jW {α:Type} (v:V):(B→Nat→Nat→Nat→(Option Nat)→α)→α→α:=
 V.rec (motive_1:=fun _=>(B→Nat→Nat→Nat→(Option Nat)→α)→α→α) (motive_2:=fun _=>PUnit) (fun _=>fun _ e=>e) (fun _ _=>fun _ e=>e) (fun _ _=>fun _ e=>e) (fun _ e=>e) (fun _ _=>fun _ e=>e) (fun _ e=>e) (fun _ e=>e) (fun x0 x1 x2 x3 x4=>fun K _=>K x0 x1 x2 x3 x4) (fun _ e=>e) (fun _=>fun _ e=>e) (fun _ e=>e) (fun _ _ _ _ _=>fun _ e=>e) (fun _ e=>e) (fun _ _ _=>fun _ e=>e) (fun _ _=>fun _ e=>e) (fun _ _=>fun _ e=>e) (fun _ e=>e) (fun _ e=>e) PUnit.unit (fun _ _ _ _=>PUnit.unit) v
noncomputable def uT {α:Type} (v:V):(B→α)→α→α:=
 V.rec (motive_1:=fun _=>(B→α)→α→α) (motive_2:=fun _=>PUnit) (fun _=>fun _ e=>e) (fun _ _=>fun _ e=>e) (fun _ _=>fun _ e=>e) (fun _ e=>e) (fun _ _=>fun _ e=>e) (fun _ e=>e) (fun _ e=>e) (fun _ _ _ _ _=>fun _ e=>e) (fun _ e=>e) (fun x0=>fun K _=>K x0) (fun _ e=>e) (fun _ _ _ _ _=>fun _ e=>e) (fun _ e=>e) (fun _ _ _=>fun _ e=>e) (fun _ _=>fun _ e=>e) (fun _ _=>fun _ e=>e) (fun _ e=>e) (fun _ e=>e) PUnit.unit (fun _ _ _ _=>PUnit.unit) v
noncomputable def zO {α:Type} (v:V):(Nat→(List V)→(List V)→α)→α→α:=
 V.rec (motive_1:=fun _=>(Nat→(List V)→(List V)→α)→α→α) (motive_2:=fun _=>PUnit) (fun _=>fun _ e=>e) (fun _ _=>fun _ e=>e) (fun _ _=>fun _ e=>e) (fun _ e=>e) (fun _ _=>fun _ e=>e) (fun _ e=>e) (fun _ e=>e) (fun _ _ _ _ _=>fun _ e=>e) (fun _ e=>e) (fun _=>fun _ e=>e) (fun _ e=>e) (fun x0 x1 x2 _ _=>fun K _=>K x0 x1 x2) (fun _ e=>e) (fun _ _ _=>fun _ e=>e) (fun _ _=>fun _ e=>e) (fun _ _=>fun _ e=>e) (fun _ e=>e) (fun _ e=>e) PUnit.unit (fun _ _ _ _=>PUnit.unit) v
noncomputable def asAgg {α:Type} (v:V):((List V)→α)→α→α:=
 V.rec (motive_1:=fun _=>((List V)→α)→α→α) (motive_2:=fun _=>PUnit) (fun _=>fun _ e=>e) (fun _ _=>fun _ e=>e) (fun _ _=>fun _ e=>e) (fun _ e=>e) (fun _ _=>fun _ e=>e) (fun _ e=>e) (fun _ e=>e) (fun _ _ _ _ _=>fun _ e=>e) (fun _ e=>e) (fun _=>fun _ e=>e) (fun _ e=>e) (fun _ _ _ _ _=>fun _ e=>e) (fun _ e=>e) (fun _ _ _=>fun _ e=>e) (fun x0 _=>fun K _=>K x0) (fun _ _=>fun _ e=>e) (fun _ e=>e) (fun _ e=>e) PUnit.unit (fun _ _ _ _=>PUnit.unit) v
noncomputable def uQ {α:Type} (v:V):((List V)→α)→α→α:=
 V.rec (motive_1:=fun _=>((List V)→α)→α→α) (motive_2:=fun _=>PUnit) (fun _=>fun _ e=>e) (fun _ _=>fun _ e=>e) (fun _ _=>fun _ e=>e) (fun _ e=>e) (fun _ _=>fun _ e=>e) (fun _ e=>e) (fun _ e=>e) (fun _ _ _ _ _=>fun _ e=>e) (fun _ e=>e) (fun _=>fun _ e=>e) (fun _ e=>e) (fun _ _ _ _ _=>fun _ e=>e) (fun _ e=>e) (fun _ _ _=>fun _ e=>e) (fun _ _=>fun _ e=>e) (fun x0 _=>fun K _=>K x0) (fun _ e=>e) (fun _ e=>e) PUnit.unit (fun _ _ _ _=>PUnit.unit) v
noncomputable def cellsOf (v:V):List V:=
 V.rec (motive_1:=fun _=>List V) (motive_2:=fun _=>PUnit) (fun _=>[v]) (fun _ _=>[v]) (fun _ _=>[v]) ([v]) (fun _ _=>[v]) ([v]) ([v]) (fun _ _ _ _ _=>[v]) ([v]) (fun _=>[v]) ([v]) (fun _ _ _ _ _=>[v]) ([v]) (fun _ _ _=>[v]) (fun x0 _=>x0) (fun _ _=>[v]) ([v]) ([v]) PUnit.unit (fun _ _ _ _=>PUnit.unit) v
noncomputable def mG {α:Type} (v:V):(V→α)→α→α:=
 V.rec (motive_1:=fun _=>(V→α)→α→α) (motive_2:=fun _=>PUnit) (fun _=>fun _ e=>e) (fun _ _=>fun _ e=>e) (fun _ _=>fun _ e=>e) (fun _ e=>e) (fun _ _=>fun _ e=>e) (fun K _=>K .aj) (fun K _=>K .dW) (fun _ _ _ _ _=>fun _ e=>e) (fun _ e=>e) (fun _=>fun _ e=>e) (fun _ e=>e) (fun _ _ _ _ _=>fun _ e=>e) (fun _ e=>e) (fun _ _ _=>fun _ e=>e) (fun _ _=>fun _ e=>e) (fun _ _=>fun _ e=>e) (fun _ e=>e) (fun _ e=>e) PUnit.unit (fun _ _ _ _=>PUnit.unit) v
noncomputable def Dp {α:Type} (v:V):α→α→α:=
 V.rec (motive_1:=fun _=>α→α→α) (motive_2:=fun _=>PUnit) (fun _=>fun _ e=>e) (fun _ _=>fun _ e=>e) (fun _ _=>fun _ e=>e) (fun _ e=>e) (fun _ _=>fun _ e=>e) (fun _ e=>e) (fun _ e=>e) (fun _ _ _ _ _=>fun _ e=>e) (fun a _=>a) (fun _=>fun _ e=>e) (fun _ e=>e) (fun _ _ _ _ _=>fun _ e=>e) (fun _ e=>e) (fun _ _ _=>fun _ e=>e) (fun _ _=>fun _ e=>e) (fun _ _=>fun _ e=>e) (fun _ e=>e) (fun _ e=>e) PUnit.unit (fun _ _ _ _=>PUnit.unit) v
noncomputable def lQ {α:Type} (v:V):α→α→α:=
 V.rec (motive_1:=fun _=>α→α→α) (motive_2:=fun _=>PUnit) (fun _=>fun _ e=>e) (fun _ _=>fun _ e=>e) (fun _ _=>fun _ e=>e) (fun _ e=>e) (fun _ _=>fun _ e=>e) (fun _ e=>e) (fun _ e=>e) (fun _ _ _ _ _=>fun _ e=>e) (fun _ e=>e) (fun _=>fun _ e=>e) (fun _ e=>e) (fun _ _ _ _ _=>fun _ e=>e) (fun _ e=>e) (fun _ _ _=>fun _ e=>e) (fun _ _=>fun _ e=>e) (fun _ _=>fun _ e=>e) (fun a _=>a) (fun _ e=>e) PUnit.unit (fun _ _ _ _=>PUnit.unit) v
noncomputable def aP {R:Type} (m:Nat) (K:Nat→R):R:=Nat.rec (motive:=fun _=>(Nat→R)→R) (fun K=>K 0) (fun p _ K=>K (Nat.succ p)) m K
noncomputable def iP {R:Type} (n:Int) (K:Int→R):R:=Int.rec (motive:=fun _=>(Int→R)→R) (fun m K=>aP m fun m=>K (.ofNat m)) (fun m K=>aP m fun m=>K (.negSucc m)) n K
noncomputable def bP {R:Type} (b:Bool) (K:Bool→R):R:=Bool.rec (motive:=fun _=>(Bool→R)→R) (fun K=>K false) (fun K=>K true) b K
noncomputable def aG {R:Type} (b:Bool) (x y:R):R:=Bool.rec (motive:=fun _=>R) y x b
def ikN:IntKind→Nat | .i8=>0 | .i16=>1 | .i32=>2 | .i64=>3 | .u8=>4 | .u16=>5 | .u32=>6 | .u64=>7
def uM:List UInt8→Nat→Nat
 | [],acc=>acc
 | b::bs,acc=>uM bs (acc*256+b.toNat)
abbrev maxL:Nat:=9223372036854775807
def eqO:Option Nat→Option Nat→Bool | none,none=>true | some a,some b=>Nat.beq a b | _,_=>false
noncomputable def cStr (s:List UInt8):V:=aG (Nat.ble s.length maxL) (.str s.length (uM s 0)) .any
noncomputable def cV1:Value→V
 | .bool b => .bool b
 | .int k n => .int k n
 | .string s=>cStr s.data.toList
 | .slice none 0 0 => .aj
 | .pointer none => .dQ
 | .map none => .eP
 | .nilFunc => .eY
 | .nilIface => .fE
 | _ => .any
noncomputable def cVs:List Value→List V
 | []=>[]
 | v::vs=>cV1 v::cVs vs
noncomputable def Eo (v:V):Bool:=
 V.rec (motive_1:=fun _=>Bool) (motive_2:=fun _=>PUnit) (fun _=>false) (fun _ _=>false) (fun _ _=>false) (true) (fun _ _=>false) (false) (false) (fun _ _ _ _ _=>false) (false) (fun _=>false) (false) (fun _ _ _ _ _=>false) (false) (fun _ _ _=>false) (fun _ _=>false) (fun _ _=>false) (false) (false) PUnit.unit (fun _ _ _ _=>PUnit.unit) v
noncomputable def abg (v:V):Bool:=
 V.rec (motive_1:=fun _=>Bool) (motive_2:=fun _=>PUnit) (fun _=>false) (fun _ _=>false) (fun _ _=>false) (false) (fun _ _=>true) (false) (false) (fun _ _ _ _ _=>false) (false) (fun _=>false) (false) (fun _ _ _ _ _=>false) (false) (fun _ _ _=>false) (fun _ _=>false) (fun _ _=>false) (false) (false) PUnit.unit (fun _ _ _ _=>PUnit.unit) v
noncomputable def En (v:V):Bool:=
 V.rec (motive_1:=fun _=>Bool) (motive_2:=fun _=>PUnit) (fun _=>false) (fun _ _=>false) (fun _ _=>false) (false) (fun _ _=>false) (true) (false) (fun _ _ _ _ _=>false) (false) (fun _=>false) (false) (fun _ _ _ _ _=>false) (false) (fun _ _ _=>false) (fun _ _=>false) (fun _ _=>false) (false) (false) PUnit.unit (fun _ _ _ _=>PUnit.unit) v
noncomputable def abh (v:V):Bool:=
 V.rec (motive_1:=fun _=>Bool) (motive_2:=fun _=>PUnit) (fun _=>false) (fun _ _=>false) (fun _ _=>false) (false) (fun _ _=>false) (false) (false) (fun _ _ _ _ _=>false) (false) (fun _=>true) (false) (fun _ _ _ _ _=>false) (false) (fun _ _ _=>false) (fun _ _=>false) (fun _ _=>false) (false) (false) PUnit.unit (fun _ _ _ _=>PUnit.unit) v
noncomputable def Es (v:V):Bool:=
 V.rec (motive_1:=fun _=>Bool) (motive_2:=fun _=>PUnit) (fun _=>false) (fun _ _=>false) (fun _ _=>false) (false) (fun _ _=>false) (false) (false) (fun _ _ _ _ _=>false) (true) (fun _=>false) (false) (fun _ _ _ _ _=>false) (false) (fun _ _ _=>false) (fun _ _=>false) (fun _ _=>false) (false) (false) PUnit.unit (fun _ _ _ _=>PUnit.unit) v
noncomputable def Et (v:V):Bool:=
 V.rec (motive_1:=fun _=>Bool) (motive_2:=fun _=>PUnit) (fun _=>false) (fun _ _=>false) (fun _ _=>false) (false) (fun _ _=>false) (false) (false) (fun _ _ _ _ _=>false) (false) (fun _=>false) (true) (fun _ _ _ _ _=>false) (false) (fun _ _ _=>false) (fun _ _=>false) (fun _ _=>false) (false) (false) PUnit.unit (fun _ _ _ _=>PUnit.unit) v
noncomputable def pFn (v:V):Bool:=
 V.rec (motive_1:=fun _=>Bool) (motive_2:=fun _=>PUnit) (fun _=>false) (fun _ _=>false) (fun _ _=>false) (false) (fun _ _=>false) (false) (false) (fun _ _ _ _ _=>false) (false) (fun _=>false) (false) (fun _ _ _ _ _=>true) (false) (fun _ _ _=>false) (fun _ _=>false) (fun _ _=>false) (false) (false) PUnit.unit (fun _ _ _ _=>PUnit.unit) v
noncomputable def pSl (v:V):Bool:=
 V.rec (motive_1:=fun _=>Bool) (motive_2:=fun _=>PUnit) (fun _=>false) (fun _ _=>false) (fun _ _=>false) (false) (fun _ _=>false) (false) (false) (fun _ _ _ x3 _=>Nat.blt 0 x3) (false) (fun _=>false) (false) (fun _ _ _ _ _=>false) (false) (fun _ _ _=>false) (fun _ _=>false) (fun _ _=>false) (false) (false) PUnit.unit (fun _ _ _ _=>PUnit.unit) v
noncomputable def one (v:V):Bool:=
 V.rec (motive_1:=fun _=>Bool) (motive_2:=fun _=>PUnit) (fun _=>true) (fun _ _=>true) (fun _ _=>true) (true) (fun _ _=>true) (true) (true) (fun _ _ _ _ _=>true) (true) (fun _=>true) (true) (fun _ _ _ _ _=>true) (true) (fun _ _ _=>true) (fun _ _=>false) (fun _ _=>false) (false) (false) PUnit.unit (fun _ _ _ _=>PUnit.unit) v
noncomputable def cV (v:Value):V:=match v with | .agg cs=>aG (List.all (cVs cs.toList) one) (.agg (cVs cs.toList)) .any | v=>cV1 v
def pNo (_:V):Bool:=false
noncomputable def opK {R:Type} (x:Operand):Nat→Tr V→(V→R)→R:=match x with
 | .tmp t=>fun _ env K=>Option.rec (motive:=fun _=>R) (K .any) (fun v=>K v) ((bOf t).get env)
 | .const v=>fun _ _ K=>K (cV v)
 | .global g=>fun ng _ K=>aG (Nat.blt g ng) (K (.ptr (bOf g) 0)) (K .any)
 | .func f=>fun _ _ K=>K (.fn f [] [])
noncomputable def pJ {R:Type} (xs:List Operand):Nat→Tr V→(List V→R)→R:=
 List.rec (motive:=fun _=>Nat→Tr V→(List V→R)→R) (fun _ _ K=>K []) (fun x _ ih ng env K=>opK x ng env fun v=>ih ng env fun vs=>K (v::vs)) xs
noncomputable def l1 {R:Type} (l:List V):(V→R)→R→R:=match l with | [a]=>fun K _=>K a | _=>fun _ e=>e
noncomputable def l2 {R:Type} (l:List V):(V→V→R)→R→R:=match l with | [a,b]=>fun K _=>K a b | _=>fun _ e=>e
noncomputable def l3 {R:Type} (l:List V):(V→V→V→R)→R→R:=match l with | [a,b,c]=>fun K _=>K a b c | _=>fun _ e=>e
noncomputable def lc {R:Type} (l:List V):(V→List V→R)→R→R:=match l with | a::b=>fun K _=>K a b | _=>fun _ e=>e
noncomputable def fP {R:Type} (o:Option Obj):(Bool→Nat→Nat→Tr V→R)→R→R:=match o with | some (.blk ro sz hi cs)=>fun K _=>K ro sz hi cs | _=>fun _ e=>e
noncomputable def Jc {R:Type} (o:Option Obj):(Nat→List (V×V)→R)→R→R:=match o with | some (.map kt es)=>fun K _=>K kt es | _=>fun _ e=>e
noncomputable def gZ {R α:Type} (o:Option α):(α→R)→R→R:=match o with | some v=>fun K _=>K v | none=>fun _ e=>e
noncomputable def nH {R:Type} (n:Nat):Tr V→Nat→(List V→R)→R→R:=
 Nat.rec (motive:=fun _=>Tr V→Nat→(List V→R)→R→R) (fun _ _ K _=>K [])
  (fun _ ih cs off K e=>Option.rec (motive:=fun _=>R) e (fun v=>ih cs (Nat.succ off) (fun vs=>K (v::vs)) e) ((bOf off).get cs)) n
noncomputable def jO {R:Type} (vs:List V):Tr V→Nat→(Tr V→R)→R:=
 List.rec (motive:=fun _=>Tr V→Nat→(Tr V→R)→R) (fun cs _ K=>K cs)
  (fun v _ ih cs off K=>(bOf off).gX cs (some v) fun cs'=>ih cs' (Nat.succ off) K) vs
noncomputable def Ik {R:Type} (m:Nat):List V→(List V→R)→R:=
 Nat.rec (motive:=fun _=>List V→(List V→R)→R) (fun _ K=>K []) (fun _ ih vs K=>ih vs fun r=>K (vs++r)) m
noncomputable def pX {R:Type} (l:List V):(List V→R)→R:=
 List.rec (motive:=fun _=>(List V→R)→R) (fun K=>K []) (fun v _ ih K=>ih fun vs=>K (v::vs)) l
abbrev KV:=V→Tr Obj→B→R
abbrev Cl:=Nat→List V→Tr Obj→B→FR
abbrev H:=(Nat→TE)→Cl→List V→Tr Obj→B→KV→R
noncomputable def jZ {R:Type} (sz:Nat) (cs:Tr V) (t:Tr Obj) (nx:B) (K:Tr Obj→B→R):R:=
 nx.gX t (some (.blk false sz sz cs)) fun t'=>nx.P7 fun nx'=>K t' nx'
noncomputable def mkVar (cs:List V) (t:Tr Obj) (nx:B) (K:KV):R:=
 aG (List.all cs one) (jO cs .lf 0 fun tr=>aP cs.length fun n=>jZ n tr t nx fun t' nx'=>K (.ptr nx 0) t' nx') (.bad 90)
noncomputable def AB {R:Type} (k:TK):Nat→Tr V→Nat→(V→R)→R→R:=match k with
 | .none=>fun _ _ _ _ e=>e
 | .agg _=>fun n cs off K e=>nH n cs off (fun vs=>K (.agg vs)) e
 | .arr _ _=>fun n cs off K e=>nH n cs off (fun vs=>K (.agg vs)) e
 | _=>fun _ cs off K e=>Option.rec (motive:=fun _=>R) e (fun v=>K v) ((bOf off).get cs)
noncomputable def Rh (ty:Nat):H:=fun T _ vals t nx K=>
 l1 vals (fun p=>gW p (fun id off=>fP (id.get t) (fun _ _ _ cs=>AB (T ty).k (T ty).size cs off (fun v=>K v t nx) (.bad 2)) (.bad 3)) (.bad 4)) (.bad 4)
noncomputable def kV {R:Type} (id:B) (off:Nat) (vs:List V) (t:Tr Obj) (K:Tr Obj→R) (e:R):R:=
 fP (id.get t) (fun ro sz hi cs=>aG ro e (aP (Nat.add off vs.length) fun en=>aG (and (Nat.ble en sz) (List.all vs one)) (jO vs cs off fun cs'=>aP (Nat.max hi en) fun hi'=>id.gX t (some (.blk false sz hi' cs')) K) e)) e
noncomputable def tY (ty:Nat):H:=fun T _ vals t nx K=>
 l2 vals (fun p v=>gW p (fun id off=>aG (and (Abs.TE.known (T ty)) (Nat.beq (T ty).size (cellsOf v).length)) (kV id off (cellsOf v) t (fun t'=>K .any t' nx) (.bad 5)) (.bad 6)) (.bad 7)) (.bad 7)
def lS (k:TK) (f:Nat):Option (Nat×Nat×Bool):=match k with | .agg fs=>fs[f]? | _=>none
noncomputable def Qe {R:Type} (o:Option (Nat×Nat×Bool)):(Nat→Nat→Bool→R)→R→R:=match o with | some (a,b,c)=>fun K _=>K a b c | none=>fun _ e=>e
noncomputable def uj (ty f:Nat):H:=fun T _ vals t nx K=>
 Qe (lS (T ty).k f) (fun fo fsz _=>aG (Nat.blt 0 fsz) (l1 vals (fun p=>gW p (fun id off=>aP (Nat.add off fo) fun o=>K (.ptr id o) t nx) (.bad 8)) (.bad 8)) (.bad 8)) (.bad 8)
def part (b:Bool):List V→Nat→Nat→Option V:=match b with | true=>fun cs off n=>some (.agg ((cs.drop off).take n)) | false=>fun cs off _=>cs[off]?
noncomputable def DR {R:Type} (v:V) (K:V→R):R:=asAgg v (fun cs=>pX cs fun cs=>K (.agg cs)) (K v)
noncomputable def Lu (ty f:Nat):H:=fun T _ vals t nx K=>
 Qe (lS (T ty).k f) (fun fo fsz fb=>l1 vals (fun p=>asAgg p (fun cs=>aG (Nat.ble (Nat.add fo fsz) cs.length) (gZ (part fb cs fo fsz) (fun v=>DR v fun v=>K v t nx) (.bad 9)) (.bad 9)) (.bad 10)) (.bad 10)) (.bad 10)
noncomputable def inB {R:Type} (i:Int):Nat→(Nat→R)→R→R:=
 Int.rec (motive:=fun _=>Nat→(Nat→R)→R→R) (fun m len K e=>aG (Nat.blt m len) (K m) e) (fun _ _ _ e=>e) i
noncomputable def Dl (k:TK):(Nat→TE)→V→V→Tr Obj→B→KV→R:=match k with
 | .slc e=>fun T x i t nx K=>jW x (fun id sz off len _=>asInt i (fun _ i=>aG (and (Abs.TE.known (T e)) (Nat.beq sz (T e).size)) (inB i len (fun m=>aP (Nat.add off (Nat.mul m sz)) fun o=>K (.ptr id o) t nx) (.bad 11)) (.bad 12)) (.bad 13)) (.bad 13)
 | .arr n e=>fun T x i t nx K=>gW x (fun id off=>asInt i (fun _ i=>aG (Abs.TE.known (T e)) (inB i n (fun m=>aP (Nat.add off (Nat.mul m (T e).size)) fun o=>K (.ptr id o) t nx) (.bad 14)) (.bad 14)) (.bad 15)) (.bad 15)
 | _=>fun _ _ _ _ _ _ => .bad 16
noncomputable def uh (ty:Nat):H:=fun T _ vals t nx K=>l2 vals (fun x i=>Dl (T ty).k T x i t nx K) (.bad 16)
noncomputable def La (k:TK):(Nat→TE)→V→V→Tr Obj→B→KV→R:=match k with
 | .str=>fun _ x i t nx K=>gU x (fun l n=>asInt i (fun _ i=>inB i l (fun m=>aP (Nat.mod (Nat.shiftRight n (Nat.mul 8 (Nat.sub (Nat.sub l 1) m))) 256) fun c=>K (.int .u8 (.ofNat c)) t nx) (.bad 17)) (.bad 18)) (.bad 18)
 | .arr n e=>fun T x i t nx K=>asAgg x (fun cs=>asInt i (fun _ i=>inB i n (fun m=>aP (Nat.mul m (T e).size) fun o=>aG (and (Abs.TE.known (T e)) (Nat.ble (Nat.add o (T e).size) cs.length)) (gZ (part (T e).k.isAgg cs o (T e).size) (fun v=>DR v fun v=>K v t nx) (.bad 19)) (.bad 19)) (.bad 19)) (.bad 20)) (.bad 20)
 | _=>fun _ _ _ _ _ _ => .bad 22
noncomputable def Ls (ty:Nat):H:=fun T _ vals t nx K=>l2 vals (fun x i=>La (T ty).k T x i t nx K) (.bad 22)
noncomputable def inR (k:IntKind):Int→Bool:=
 match k with
 | .i64=>fun n=>Int.rec (motive:=fun _=>Bool) (fun m=>Nat.blt m 9223372036854775808) (fun m=>Nat.blt m 9223372036854775808) n
 | .u8=>fun n=>Int.rec (motive:=fun _=>Bool) (fun m=>Nat.blt m 256) (fun _=>false) n
 | .u64=>fun n=>Int.rec (motive:=fun _=>Bool) (fun m=>Nat.blt m 18446744073709551616) (fun _=>false) n
 | _=>fun _=>false
noncomputable def l7 {R:Type} (k:IntKind) (n:Int) (K:Int→R):R:=
 aG (inR k n) (iP n K) (iP (k.wrap n) K)
noncomputable def ltI (a b:Int):Bool:=Int.rec (motive:=fun _=>Bool) (fun _=>false) (fun _=>true) (Int.sub a b)
def eqI (a b:Int):Bool:=match a,b with | .ofNat m,.ofNat n=>Nat.beq m n | .negSucc m,.negSucc n=>Nat.beq m n | _,_=>false
def isZ (b:Int):Bool:=match b with | .ofNat m=>Nat.beq m 0 | _=>false
abbrev BI:=IntKind→Int→IntKind→Int→(V→R)→R
noncomputable def gQ (k k':IntKind) (x:R):R:=aG (Nat.beq (ikN k) (ikN k')) x (.bad 23)
noncomputable def opI (op:BinOp):BI:=
 match op with
 | .add=>fun k a k' b K=>gQ k k' (l7 k (Int.add a b) fun n=>K (.int k n))
 | .sub=>fun k a k' b K=>gQ k k' (l7 k (Int.sub a b) fun n=>K (.int k n))
 | .mul=>fun k a k' b K=>gQ k k' (l7 k (Int.mul a b) fun n=>K (.int k n))
 | .quo=>fun k a k' b K=>gQ k k' (aG (isZ b) (.bad 24) (l7 k (Int.tdiv a b) fun n=>K (.int k n)))
 | .rem=>fun k a k' b K=>gQ k k' (aG (isZ b) (.bad 24) (iP (Int.tmod a b) fun n=>K (.int k n)))
 | .and=>fun k a k' b K=>gQ k k' (iP (Abs.bitsOf .and k a b) fun n=>K (.int k n))
 | .or=>fun k a k' b K=>gQ k k' (iP (Abs.bitsOf .or k a b) fun n=>K (.int k n))
 | .xor=>fun k a k' b K=>gQ k k' (iP (Abs.bitsOf .xor k a b) fun n=>K (.int k n))
 | .andNot=>fun k a k' b K=>gQ k k' (iP (Abs.bitsOf .andNot k a b) fun n=>K (.int k n))
 | .eql=>fun k a k' b K=>gQ k k' (bP (eqI a b) fun x=>K (.bool x))
 | .neq=>fun k a k' b K=>gQ k k' (bP (not (eqI a b)) fun x=>K (.bool x))
 | .lss=>fun k a k' b K=>gQ k k' (bP (ltI a b) fun x=>K (.bool x))
 | .leq=>fun k a k' b K=>gQ k k' (bP (not (ltI b a)) fun x=>K (.bool x))
 | .gtr=>fun k a k' b K=>gQ k k' (bP (ltI b a) fun x=>K (.bool x))
 | .geq=>fun k a k' b K=>gQ k k' (bP (not (ltI a b)) fun x=>K (.bool x))
 | .shl=>fun k a _ b K=>inB b 64 (fun s=>iP (k.wrap (Int.mul a (Int.ofNat (Nat.pow 2 (Nat.min s k.bits))))) fun n=>K (.int k n)) (.bad 25)
 | .shr=>fun k a _ b K=>inB b 64 (fun s=>iP (Int.fdiv a (Int.ofNat (Nat.pow 2 (Nat.min s k.bits)))) fun n=>K (.int k n)) (.bad 26)
def strEq (l n l' n':Nat):Bool:=and (Nat.beq l l') (Nat.beq n n')
def strLt (l n l' n':Nat):Bool:=
 or (Nat.blt (Nat.shiftLeft n (Nat.mul 8 (Nat.sub l' l))) (Nat.shiftLeft n' (Nat.mul 8 (Nat.sub l l'))))
  (and (Nat.beq (Nat.shiftLeft n (Nat.mul 8 (Nat.sub l' l))) (Nat.shiftLeft n' (Nat.mul 8 (Nat.sub l l')))) (Nat.blt l l'))
abbrev BS:=Nat→Nat→Nat→Nat→(V→R)→R
noncomputable def opS (op:BinOp):BS:=
 match op with
 | .add=>fun l n l' n' K=>aP (Nat.add l l') fun lz=>aG (Nat.ble lz maxL) (aP (Nat.add (Nat.shiftLeft n (Nat.mul 8 l')) n') fun z=>K (.str lz z)) (.bad 27)
 | .eql=>fun l n l' n' K=>bP (strEq l n l' n') fun x=>K (.bool x)
 | .neq=>fun l n l' n' K=>bP (not (strEq l n l' n')) fun x=>K (.bool x)
 | .lss=>fun l n l' n' K=>bP (strLt l n l' n') fun x=>K (.bool x)
 | .leq=>fun l n l' n' K=>bP (not (strLt l' n' l n)) fun x=>K (.bool x)
 | .gtr=>fun l n l' n' K=>bP (strLt l' n' l n) fun x=>K (.bool x)
 | .geq=>fun l n l' n' K=>bP (not (strLt l n l' n')) fun x=>K (.bool x)
 | _=>fun _ _ _ _ _ => .bad 27
noncomputable def opE (op:BinOp):Bool→(V→R)→R:=
 match op with
 | .eql=>fun b K=>bP b fun x=>K (.bool x)
 | .neq=>fun b K=>bP (not b) fun x=>K (.bool x)
 | _=>fun _ _ => .bad 28
def lY:Bool→Bool→Bool | true,true=>true | false,false=>true | _,_=>false
def eX:SK→V→Bool
 | .b,.bool _=>true
 | .i k,.int k' _=>Nat.beq (ikN k) (ikN k')
 | .s,.str _ _=>true
 | _,_=>false
noncomputable def fits (ks:List SK):List V→Bool:=
 List.rec (motive:=fun _=>List V→Bool) (fun cs=>match cs with | []=>true | _=>false) (fun k _ ih cs=>match cs with | c::cs=>and (eX k c) (ih cs) | []=>false) ks
def eq1:V→V→Bool
 | .bool a,.bool b=>lY a b
 | .int _ a,.int _ b=>eqI a b
 | .str l n,.str l' n'=>strEq l n l' n'
 | _,_=>false
noncomputable def Qi (a:List V):List V→Bool:=
 List.rec (motive:=fun _=>List V→Bool) (fun _=>true) (fun x _ ih b=>match b with | y::ys=>and (eq1 x y) (ih ys) | []=>false) a
noncomputable def ad9 (te:TE) (a b:List V) (K:Bool→R):R:=
 aG (and (and te.k.isAgg (not te.ks.isEmpty)) (and (fits te.ks a) (fits te.ks b))) (bP (Qi a b) K) (.bad 29)
def KX:TK→Bool | .bool=>true | _=>false
def PV:TK→Bool | .ptr=>true | _=>false
def PU:TK→Bool | .slc _=>true | _=>false
def PW:TK→Bool | .map _ _=>true | _=>false
def kFn:TK→Bool | .fn=>true | _=>false
noncomputable def sU (b:V) (p q:V→Bool) (E:Bool→(V→R)→R) (K:V→R):R:=aG (p b) (E true K) (aG (q b) (E false K) (.bad 30))
noncomputable def iW (v:V):TE→BI→BS→(Bool→(V→R)→R)→V→(V→R)→R:=
 V.rec (motive_1:=fun _=>TE→BI→BS→(Bool→(V→R)→R)→V→(V→R)→R) (motive_2:=fun _=>PUnit) (fun x0=>fun te _ _ E b K=>aG (KX te.k) (asBool b (fun y=>E (lY x0 y) K) (.bad 29)) (.bad 29)) (fun x0 x1=>fun _ I _ _ b K=>asInt b (fun k' m=>I x0 x1 k' m K) (.bad 29)) (fun x0 x1=>fun _ _ S _ b K=>gU b (fun l' n'=>S x0 x1 l' n' K) (.bad 29)) (fun te _ _ E b K=>aG (PV te.k) (sU b Eo abg E K) (.bad 29)) (fun _ _=>fun te _ _ E b K=>aG (PV te.k) (sU b pNo Eo E K) (.bad 29)) (fun te _ _ E b K=>aG (PU te.k) (sU b En pSl E K) (.bad 29)) (fun _ _ _ _ _ _ => .bad 30) (fun _ _ _ x3 _=>fun te _ _ E b K=>aG (and (PU te.k) (Nat.blt 0 x3)) (sU b pNo En E K) (.bad 29)) (fun te _ _ E b K=>aG (PW te.k) (sU b Es abh E K) (.bad 29)) (fun _=>fun te _ _ E b K=>aG (PW te.k) (sU b pNo Es E K) (.bad 29)) (fun te _ _ E b K=>aG (kFn te.k) (sU b Et pFn E K) (.bad 29)) (fun _ _ _ _ _=>fun te _ _ E b K=>aG (kFn te.k) (sU b pNo Et E K) (.bad 29)) (fun _ _ _ _ _ _ => .bad 30) (fun _ _ _=>fun _ _ _ _ _ _ => .bad 30) (fun x0 _=>fun te _ _ E b K=>asAgg b (fun ys=>ad9 te x0 ys (fun x=>E x K)) (.bad 29)) (fun _ _=>fun _ _ _ _ _ _ => .bad 30) (fun _ _ _ _ _ _ => .bad 30) (fun _ _ _ _ _ _ => .bad 30) PUnit.unit (fun _ _ _ _=>PUnit.unit) v
noncomputable def abC (op:BinOp) (ty:Nat):H:=fun T _ vals t nx K=>l2 vals (fun a b=>iW a (T ty) (opI op) (opS op) (opE op) b (fun v=>K v t nx)) (.bad 30)
noncomputable def opU (op:UnOp):V→(V→R)→R:=
 match op with
 | .not=>fun v K=>asBool v (fun b=>bP (not b) fun b=>K (.bool b)) (.bad 31)
 | .neg=>fun v K=>asInt v (fun k n=>l7 k (Int.sub 0 n) fun n=>K (.int k n)) (.bad 31)
 | _=>fun _ _ => .bad 31
noncomputable def hUn (op:UnOp):H:=fun _ _ vals t nx K=>l1 vals (fun a=>opU op a fun v=>K v t nx) (.bad 31)
noncomputable def WZ (src dst:TK):V→(V→R)→R:=match src,dst with
 | .int _,.int k=>fun v K=>asInt v (fun _ n=>l7 k n fun n=>K (.int k n)) (.bad 33)
 | .str,.str=>fun v K=>gU v (fun l n=>K (.str l n)) (.bad 33)
 | _,_=>fun _ _ => .bad 33
noncomputable def RG (src dst:Nat):H:=fun T _ vals t nx K=>l1 vals (fun a=>WZ (T src).k (T dst).k a fun v=>K v t nx) (.bad 33)
noncomputable def bnd {R:Type} (there:Bool):List V→(Option Nat→List V→R)→R→R:=
 match there with
 | true=>fun vs K e=>lc vs (fun v vs=>asInt v (fun _ n=>inB n 9223372036854775808 (fun n=>K (some n) vs) e) e) e
 | false=>fun vs K _=>K none vs
noncomputable def orD (o:Option Nat):Nat→Nat:=match o with | none=>fun d=>d | some n=>fun _=>n
noncomputable def acZ {R:Type} (m cap:Option Nat) (l mm:Nat) (K:Option Nat→R):R:=
 Option.rec (motive:=fun _=>R) (Option.rec (motive:=fun _=>R) (K none) (fun c=>aP (Nat.sub c l) fun c=>K (some c)) cap) (fun _=>aP (Nat.sub mm l) fun c=>K (some c)) m
noncomputable def Ce (k:TK):(Nat→TE)→V→Option Nat→Option Nat→Option Nat→(V→R)→R:=match k with
 | .str=>fun _ x lo hi m K=>gU x (fun len n=>aG (and (Nat.ble (orD lo 0) (orD hi len)) (and (Nat.ble (orD hi len) len) (match m with | none=>true | some _=>false)))
   (aP (Nat.sub (orD hi len) (orD lo 0)) fun len'=>aP (Nat.mod (Nat.shiftRight n (Nat.mul 8 (Nat.sub len (orD hi len)))) (Nat.pow 2 (Nat.mul 8 len'))) fun z=>K (.str len' z)) (.bad 34)) (.bad 36)
 | .slc e=>fun T x lo hi m K=>aG (Abs.TE.known (T e)) (jW x (fun id sz off len cap=>
   aG (and (Nat.beq sz (T e).size) (and (Nat.ble (orD lo 0) (orD hi len)) (and (Nat.ble (orD hi len) (orD m (orD cap len))) (and (match m with | none=>true | some k=>Nat.ble k (orD cap len)) (match m,hi with | some _,none=>false | _,_=>true)))))
    (aP (Nat.add off (Nat.mul (orD lo 0) sz)) fun o=>aP (Nat.sub (orD hi len) (orD lo 0)) fun len'=>acZ m cap (orD lo 0) (orD m (orD cap len)) fun c=>K (.sl id sz o len' c)) (.bad 37))
   (aG (and (Nat.beq (orD lo 0) 0) (and (Nat.beq (orD hi 0) 0) (match m,hi with | none,_=>true | some k,some _=>Nat.beq k 0 | some _,none=>false))) (mG x (fun v=>K v) (.bad 41)) (.bad 41))) (.bad 42)
 | .arr n e=>fun T x lo hi m K=>aG (and (and (Abs.TE.known (T e)) (Nat.ble n maxL)) (Nat.blt 0 (T e).size)) (gW x (fun id off=>aG (and (Nat.ble (orD lo 0) (orD hi n)) (and (Nat.ble (orD hi n) n) (match m with | none=>true | some _=>false)))
   (aP (Nat.add off (Nat.mul (orD lo 0) (T e).size)) fun o=>aP (Nat.sub (orD hi n) (orD lo 0)) fun len'=>aP (Nat.sub n (orD lo 0)) fun c=>K (.sl id (T e).size o len' (some c))) (.bad 44)) (.bad 46)) (.bad 46)
 | _=>fun _ _ _ _ _ _ => .bad 47
noncomputable def JD (v:V) (t:Tr Obj) (K:R):R:=
 jW v (fun id sz off _ cap=>gZ cap (fun c=>fP (id.get t) (fun _ n _ _=>aG (Nat.ble (Nat.add off (Nat.mul c sz)) n) K (.bad 52)) (.bad 52)) K) K
noncomputable def Lr (ty:Nat) (lo hi mx:Bool):H:=fun T _ vals t nx K=>
 lc vals (fun x vs=>bnd lo vs (fun l vs=>bnd hi vs (fun h vs=>bnd mx vs (fun m _=>Ce (T ty).k T x l h m fun v=>aG (Abs.TE.known (T ty)) (aG (match (T ty).k with | .arr _ _=>true | _=>false) (JD v t (K v t nx)) (K v t nx)) (.bad 48)) (.bad 48)) (.bad 49)) (.bad 50)) (.bad 51)
def vw (k:TK):Option Nat:=match k with | .slc e=>some e | _=>none
noncomputable def nR {R:Type} (sz:Nat) (v:V) (t:Tr Obj) (K:Nat→List V→R) (e:R):R:=
 jW v (fun id sz' off len _=>fP (id.get t) (fun _ _ _ cs=>aG (Nat.beq sz sz') (nH (Nat.mul len sz) cs off (fun vs=>K len vs) e) e) e) (mG v (fun _=>K 0 []) e)
noncomputable def newRow {R:Type} (sz n:Nat) (cap:Option Nat) (cs:Tr V) (t:Tr Obj) (nx:B) (K:V→Tr Obj→B→R):R:=
 aP (Nat.mul n sz) fun h=>jZ h cs t nx fun t' nx'=>K (.sl nx sz 0 n cap) t' nx'
noncomputable def isZero {R:Type} (n:Nat):R→R→R:=Nat.rec (motive:=fun _=>R→R→R) (fun x _=>x) (fun _ _ _ y=>y) n
noncomputable def jk (sz off len m:Nat) (cs:Tr V) (ys:List V) (t:Tr Obj) (nx:B) (K:KV):R:=
 nH (Nat.mul len sz) cs off (fun old=>jO old .lf 0 fun c0=>jO ys c0 (Nat.mul len sz) fun c1=>aP (Nat.add len m) fun n=>newRow sz n none c1 t nx K) (.bad 57)
noncomputable def lW (sz:Nat) (d:V) (m:Nat) (ys:List V) (t:Tr Obj) (nx:B) (K:KV):R:=
 jW d (fun id sz' off len cap=>aG (Nat.beq sz sz') (fP (id.get t) (fun ro _ hi cs=>
   Option.rec (motive:=fun _=>R)
    (aG ro (.bad 58) (id.gX t none fun t1=>aG (and (Nat.beq off 0) (Nat.beq hi (Nat.mul len sz)))
     (jO ys cs (Nat.mul len sz) fun c1=>aP (Nat.add len m) fun n=>newRow sz n none c1 t1 nx K) (jk sz off len m cs ys t1 nx K)))
    (fun c=>aG (Nat.ble (Nat.add len m) c)
     (aP (Nat.add off (Nat.mul len sz)) fun o=>kV id o ys t (fun t'=>aP (Nat.add len m) fun n=>K (.sl id sz off n (some c)) t' nx) (.bad 56))
     (aG ro (isZero c (jk sz off len m cs ys t nx K) (.bad 58)) (jk sz off len m cs ys t nx K))) cap) (.bad 60)) (.bad 59))
  (mG d (fun _=>jO ys .lf 0 fun cs=>newRow sz m none cs t nx K) (.bad 61))
noncomputable def lenOf (d:V):Nat:=jW d (fun _ _ _ len _=>len) 0
noncomputable def hAppend (ty ty':Nat):H:=fun T _ vals t nx K=>
 aG (Nat.beq ty ty') (gZ (vw (T ty).k) (fun e=>aG (and (Abs.TE.known (T e)) (and (Nat.blt 0 (T e).size) (Nat.blt 0 (T e).bytes))) (l2 vals (fun d x=>nR (T e).size x t (fun m ys=>isZero m (nR (T e).size d t (fun _ _=>K d t nx) (.bad 62))
  (aG (and (Nat.ble (Nat.mul (Nat.add (lenOf d) m) (T e).bytes) 140737488355328) (List.all ys one)) (lW (T e).size d m ys t nx K) (.bad 63))) (.bad 55)) (.bad 62)) (.bad 62)) (.bad 62)) (.bad 62)
noncomputable def uN {R:Type} (k:Nat):Nat→List V→(List V→R)→R:=
 Nat.rec (motive:=fun _=>Nat→List V→(List V→R)→R) (fun _ acc K=>K acc) (fun _ ih n acc K=>aP (Nat.mod n 256) fun c=>aP (Nat.shiftRight n 8) fun n'=>ih n' (.int .u8 (.ofNat c)::acc) K) k
noncomputable def FX (ty:Nat):H:=fun T _ vals t nx K=>
 gZ (vw (T ty).k) (fun e=>aG (and (Abs.TE.known (T e)) (and (Nat.beq (T e).size 1) (Nat.blt 0 (T e).bytes))) (l2 vals (fun d x=>gU x (fun l n=>isZero l (nR 1 d t (fun _ _=>K d t nx) (.bad 62))
  (aG (Nat.ble (Nat.mul (Nat.add (lenOf d) l) (T e).bytes) 140737488355328) (uN l n [] fun ys=>lW (T e).size d l ys t nx K) (.bad 63))) (.bad 55)) (.bad 62)) (.bad 62)) (.bad 62)
noncomputable def RH (ty:Nat):H:=fun T _ vals t nx K=>
 gZ (vw (T ty).k) (fun e=>aG (and (Abs.TE.known (T e)) (and (Nat.blt 0 (T e).size) (and (Nat.blt 0 (T e).bytes) (List.all (cellsOf (cV (T e).zero)) one)))) (l2 vals (fun d x=>asInt x (fun _ i=>inB i 16777216 (fun m=>isZero m (.bad 62)
  (aG (and (Nat.ble (Nat.mul (Nat.add (lenOf d) m) (T e).bytes) 140737488355328) (Nat.ble (Nat.mul m (T e).bytes) 140737488355328)) (Ik m (cellsOf (cV (T e).zero)) fun ys=>lW (T e).size d m ys t nx K) (.bad 63))) (.bad 62)) (.bad 55)) (.bad 62)) (.bad 62)) (.bad 62)
noncomputable def adb (k:TK):Nat→H:=match k with
 | .str=>FX
 | .int _=>RH
 | _=>fun _ _ _ _ _ _ _ => .bad 62
noncomputable def Bo (ty ty':Nat):H:=fun T call vals t nx K=>aG (Nat.beq ty ty') (hAppend ty ty' T call vals t nx K) (adb (T ty').k ty T call vals t nx K)
noncomputable def abA (ty:Nat):H:=fun T _ vals t nx K=>l1 vals (fun v=>gZ (vw (T ty).k) (fun _=>jW v (fun _ _ _ _ c=>gZ c (fun c=>K (.int .i64 (.ofNat c)) t nx) (.bad 78)) (mG v (fun _=>K (.int .i64 (.ofNat 0)) t nx) (.bad 78))) (.bad 78)) (.bad 78)
noncomputable def Xi {R:Type} (sz n:Nat) (v:V) (t:Tr Obj) (K:List V→R) (e:R):R:=
 jW v (fun id sz' off _ _=>fP (id.get t) (fun _ _ _ cs=>aG (Nat.beq sz sz') (nH (Nat.mul n sz) cs off K e) e) e) (mG v (fun _=>K []) e)
noncomputable def RF (ty ty':Nat):H:=fun T _ vals t nx K=>
 aG (Nat.beq ty ty') (gZ (vw (T ty).k) (fun e=>aG (Abs.TE.known (T e)) (l2 vals (fun d x=>jW d (fun id sz off len _=>aP (Nat.min (lenOf x) len) fun n=>Xi (T e).size n x t (fun ys=>
   aG (Nat.beq sz (T e).size) (kV id off ys t (fun t'=>K (.int .i64 (.ofNat n)) t' nx) (.bad 63)) (.bad 64)) (.bad 65))
  (Xi (T e).size 0 x t (fun _=>mG d (fun _=>K (.int .i64 (.ofNat 0)) t nx) (.bad 65)) (.bad 65))) (.bad 65)) (.bad 65)) (.bad 65)) (.bad 65)
noncomputable def LD (ty:Nat):H:=fun T _ vals t nx K=>
 gZ (vw (T ty).k) (fun e=>aG (and (Abs.TE.known (T e)) (and (Nat.blt 0 (T e).size) (List.all (cellsOf (cV (T e).zero)) one))) (l1 vals (fun d=>jW d (fun id sz off len _=>aG (Nat.beq sz (T e).size) (Ik len (cellsOf (cV (T e).zero)) fun ys=>kV id off ys t (fun t'=>K (.tup []) t' nx) (.bad 64)) (.bad 64))
  (mG d (fun _=>K (.tup []) t nx) (.bad 65))) (.bad 65)) (.bad 65)) (.bad 65)
noncomputable def tZ (ty:Nat):H:=fun T _ vals t nx K=>
 gZ (vw (T ty).k) (fun e=>aG (and (Abs.TE.known (T e)) (Nat.blt 0 (T e).size)) (l2 vals (fun l c=>asInt l (fun _ l=>asInt c (fun _ c=>inB c 16777216 (fun c=>inB l (Nat.succ c) (fun l=>aG (and (Nat.ble (Nat.mul c (T e).bytes) 16777216) (List.all (cellsOf (cV (T e).zero)) one)) (Ik c (cellsOf (cV (T e).zero)) fun vs=>jO vs .lf 0 fun cs=>aP (Nat.mul c (T e).size) fun h=>
  jZ h cs t nx fun t' nx'=>K (.sl nx (T e).size 0 l (some c)) t' nx') (.bad 66)) (.bad 66)) (.bad 66)) (.bad 67)) (.bad 67)) (.bad 67)) (.bad 67)) (.bad 67)
noncomputable def oh (ps:List (Nat×Operand)):(Nat→Option (Nat×Nat))→List V→Tr V→(Tr V→R)→R:=
 List.rec (motive:=fun _=>(Nat→Option (Nat×Nat))→List V→Tr V→(Tr V→R)→R) (fun _ vs cs K=>match vs with | []=>K cs | _ => .bad 68)
  (fun p _ ih place vs cs K=>gZ (place p.1) (fun o=>lc vs (fun v vs=>aG (and (Nat.beq (cellsOf v).length o.2) (List.all (cellsOf v) one)) (jO (cellsOf v) cs o.1 fun cs'=>ih place vs cs' K) (.bad 68)) (.bad 68)) (.bad 68)) ps
noncomputable def rQ (all:Bool) (m:Nat) (te:TE) (K:Tr V→R):R:=
 aG all (K .lf) (aG (List.all (cellsOf (cV te.zero)) one) (Ik m (cellsOf (cV te.zero)) fun zs=>jO zs .lf 0 K) (.bad 69))
noncomputable def kX (ty len:Nat) (ps:List (Nat×Operand)):H:=fun T _ vals t nx K=>
 gZ (vw (T ty).k) (fun e=>aG (and (Abs.TE.known (T e)) (and (Nat.blt 0 (T e).size) (Nat.ble (Nat.mul len (T e).size) 16777216))) (isZero len (match ps with | []=>K .dW t nx | _ => .bad 69)
  (rQ (Nat.beq ps.length len) len (T e) fun cs=>oh ps (fun i=>aG (Nat.blt i len) (some (Nat.mul i (T e).size,(T e).size)) none) vals cs fun cs=>aP (Nat.mul len (T e).size) fun h=>
   jZ h cs t nx fun t' nx'=>K (.sl nx (T e).size 0 len (some len)) t' nx')) (.bad 69)) (.bad 69)
noncomputable def placeOf (fs:List (Nat×Nat×Bool)) (i:Nat):Option (Nat×Nat):=match fs[i]? with | some (o,z,_)=>some (o,z) | none=>none
def FZ (n:Nat) (f:Nat×Nat×Bool):Bool:=Nat.ble (Nat.add f.1 f.2.1) n
noncomputable def ac0 (k:TK):(Nat→TE)→Nat→Nat→((Nat→Option (Nat×Nat))→Bool→R)→R→R:=match k with
 | .agg fs=>fun _ n m K e=>aG (List.all fs (FZ n)) (K (placeOf fs) (Nat.beq m fs.length)) e
 | .arr n' e'=>fun T n m K e=>aG (and (Abs.TE.known (T e')) (Nat.beq (Nat.mul n' (T e').size) n)) (K (fun i=>aG (Nat.blt i n') (some (Nat.mul i (T e').size,(T e').size)) none) (Nat.beq m n')) e
 | _=>fun _ _ _ _ e=>e
noncomputable def LJ (ty:Nat) (ps:List (Nat×Operand)):H:=fun T _ vals t nx K=>
 ac0 (T ty).k T (T ty).size ps.length (fun place all=>rQ all 1 (T ty) fun cs=>oh ps place vals cs fun cs=>nH (T ty).size cs 0 (fun vs=>K (.agg vs) t nx) (.bad 70)) (.bad 70)
noncomputable def bn (te:TE) (k:V):Bool:=and (and (Abs.TE.known te) (not te.ks.isEmpty)) (and (fits te.ks (cellsOf k)) (lY (asAgg k (fun _=>true) false) te.k.isAgg))
noncomputable def eqV (a b:V):Bool:=Qi (cellsOf a) (cellsOf b)
noncomputable def wZ (es:List (V×V)):V→Option V:=
 List.rec (motive:=fun _=>V→Option V) (fun _=>none) (fun x _ ih k=>aG (eqV k x.1) (some x.2) (ih k)) es
noncomputable def CZ {R:Type} (es:List (V×V)):V→V→(List (V×V)→R)→R:=
 List.rec (motive:=fun _=>V→V→(List (V×V)→R)→R) (fun k v K=>K [(k,v)]) (fun x es ih k v K=>aG (eqV k x.1) (K ((k,v)::es)) (ih k v (fun es=>K (x::es)))) es
noncomputable def DU {R:Type} (es:List (V×V)):V→(List (V×V)→R)→R:=
 List.rec (motive:=fun _=>V→(List (V×V)→R)→R) (fun _ K=>K []) (fun x es ih k K=>aG (eqV k x.1) (K es) (ih k (fun es=>K (x::es)))) es
noncomputable def KG {R:Type} (k:TK):(Nat→Nat→R)→R→R:=match k with | .map kt e=>fun K _=>K kt e | _=>fun _ e=>e
noncomputable def KI (ok:Bool):Option V→V→(V→R)→R:=match ok with
 | true=>fun r z K=>gZ r (fun v=>K (.tup [v,.bool true])) (K (.tup [z,.bool false]))
 | false=>fun r z K=>gZ r (fun v=>K v) (K z)
noncomputable def FN (ty:Nat) (ok:Bool):H:=fun T _ vals t nx K=>
 KG (T ty).k (fun kt e=>l2 vals (fun m k=>aG (and (bn (T kt) k) (Abs.TE.known (T e))) (uT m (fun id=>Jc (id.get t) (fun kt' es=>aG (Nat.beq kt kt') (KI ok (wZ es k) (cV (T e).zero) fun v=>K v t nx) (.bad 71)) (.bad 72))
  (Dp m (KI ok none (cV (T e).zero) fun v=>K v t nx) (.bad 73))) (.bad 74)) (.bad 73)) (.bad 73)
noncomputable def nD (ty:Nat):H:=fun T _ vals t nx K=>
 KG (T ty).k (fun kt _=>l3 vals (fun m k v=>aG (bn (T kt) k) (uT m (fun id=>Jc (id.get t) (fun kt' es=>aG (Nat.beq kt kt') (CZ es k v fun es=>id.gX t (some (.map kt' es)) fun t'=>K .any t' nx) (.bad 74)) (.bad 75)) (.bad 76)) (.bad 76)) (.bad 76)) (.bad 76)
noncomputable def FU (ty:Nat):H:=fun T _ vals t nx K=>
 KG (T ty).k (fun kt _=>l2 vals (fun m k=>aG (bn (T kt) k) (uT m (fun id=>Jc (id.get t) (fun kt' es=>aG (Nat.beq kt kt') (DU es k fun es=>id.gX t (some (.map kt' es)) fun t'=>K .any t' nx) (.bad 74)) (.bad 75)) (.bad 76)) (.bad 76)) (.bad 76)) (.bad 76)
noncomputable def uf (ty:Nat):H:=fun T _ _ t nx K=>KG (T ty).k (fun kt _=>nx.gX t (some (.map kt [])) fun t'=>nx.P7 fun nx'=>K (.map nx) t' nx') (.bad 77)
noncomputable def KP (k:TK):V→Tr Obj→(Nat→R)→R:=match k with
 | .str=>fun v _ K=>gU v (fun l _=>K l) (.bad 77)
 | .slc _=>fun v _ K=>jW v (fun _ _ _ l _=>K l) (mG v (fun _=>K 0) (.bad 77))
 | .map _ _=>fun v t K=>uT v (fun id=>Jc (id.get t) (fun _ es=>aP es.length K) (.bad 77)) (Dp v (K 0) (.bad 77))
 | .arr n _=>fun _ _ K=>K n
 | _=>fun _ _ _ => .bad 77
noncomputable def hLen (ty:Nat):H:=fun T _ vals t nx K=>l1 vals (fun v=>KP (T ty).k v t fun n=>K (.int .i64 (.ofNat n)) t nx) (.bad 78)
noncomputable def XT (mx:Bool):H:=fun _ _ vals t nx K=>
 l2 vals (fun a b=>asInt a (fun k a=>asInt b (fun k' b=>gQ k k' (aG (match mx with | true=>ltI a b | false=>ltI b a) (K (.int k b) t nx) (K (.int k a) t nx))) (.bad 81)) (.bad 81)) (.bad 81)
noncomputable def FM:H:=fun _ _ vals t nx K=>l1 vals (fun v=>K v t nx) (.bad 100)
noncomputable def Rf:H:=fun _ _ vals t nx K=>l3 vals (fun c x y=>asBool c (fun b=>aG b (K x t nx) (K y t nx)) (.bad 101)) (.bad 101)
noncomputable def DL (ty:Nat):H:=fun T _ _ t nx K=>aG (Abs.TE.known (T ty)) (mkVar (cellsOf (cV (T ty).zero)) t nx K) (.bad 102)
noncomputable def abB:H:=fun _ _ vals t nx K=>l1 vals (fun v=>mkVar (cellsOf v) t nx K) (.bad 102)
noncomputable def wQ:H:=fun _ _ vals t nx K=>l1 vals (fun v=>gW v (fun id off=>K (.ptr id off) t nx) (zO v (fun f a b=>K (.fn f a b) t nx) (.bad 103))) (.bad 103)
noncomputable def pV (f n:Nat):H:=fun _ _ vals t nx K=>pX (vals.take n) fun a=>pX (vals.drop n) fun b=>K (.fn f a b) t nx
noncomputable def Bg (i:Nat):H:=fun _ _ vals t nx K=>l1 vals (fun v=>uQ v (fun vs=>gZ vs[i]? (fun v=>K v t nx) (.bad 104)) (.bad 105)) (.bad 105)
noncomputable def Lm (g:Nat) (ng:Nat):H:=fun _ _ _ t nx K=>aG (Nat.blt g ng) (fP ((bOf g).get t) (fun _ _ _ _=>K (.bool false) t nx) (.bad 106)) (.bad 106)
noncomputable def frK {α:Type} (r:FR):(Nat→α)→(V→Tr Obj→B→α)→α:=
 FR.rec (motive:=fun _=>(Nat→α)→(V→Tr Obj→B→α)→α) (fun n a _=>a n) (fun v t nx _ b=>b v t nx) r
noncomputable def LH:H:=fun _ call vals t nx K=>lc vals (fun f vs=>zO f (fun f first caps=>frK (call f (first++(vs++caps)) t nx) .bad K) (.bad 108)) (.bad 108)
noncomputable def Bj (n:Nat):H:=fun _ _ _ _ _ _ => .bad n
noncomputable def bi1 (f:Nat→H):List Operand→List Nat→H
 | [_],[ty]=>f ty
 | _,_=>Bj 110
noncomputable def bi2 (f:Nat→Nat→H):List Operand→List Nat→H
 | [_,_],[ty,ty']=>f ty ty'
 | _,_=>Bj 110
noncomputable def ac2 (f:H):List Operand→List Nat→H
 | [_,_],_=>f
 | _,_=>Bj 110
noncomputable def opB (b:Builtin):List Operand→List Nat→H:=match b with
 | .len=>bi1 hLen
 | .append=>bi2 Bo
 | .cap=>bi1 abA
 | .copy=>bi2 RF
 | .clear=>bi1 LD
 | .delete=>bi2 fun ty _=>FU ty
 | .max=>ac2 (XT true)
 | .min=>ac2 (XT false)
 | _=>fun _ _=>Bj 110
noncomputable def opH (op:Op):Nat→H:=
 match op with
 | .move _=>fun _=>FM
 | .assign _=>fun _=>FM
 | .pick _ _ _=>fun _=>Rf
 | .alloc ty=>fun _=>DL ty
 | .box _ _=>fun _=>abB
 | .build ty ⟨ps⟩=>fun _=>LJ ty ps
 | .buildSlice ty len ⟨ps⟩=>fun _=>kX ty len ps
 | .load ty _=>fun _=>Rh ty
 | .store ty _ _=>fun _=>tY ty
 | .nilCheck _=>fun _=>wQ
 | .binOp op ty _ _ _=>fun _=>abC op ty
 | .unOp op _ _=>fun _=>hUn op
 | .convert src dst _=>fun _=>RG src dst
 | .makeFunc (.func f) ⟨first⟩ _=>fun _=>pV f first.length
 | .makeSlice ty _ _=>fun _=>tZ ty
 | .fieldAddr ty _ f=>fun _=>uj ty f
 | .field ty _ f=>fun _=>Lu ty f
 | .indexAddr ty _ _=>fun _=>uh ty
 | .index ty _ _=>fun _=>Ls ty
 | .extract _ i=>fun _=>Bg i
 | .slice ty _ lo hi mx=>fun _=>Lr ty lo.isSome hi.isSome mx.isSome
 | .makeMap ty none=>fun _=>uf ty
 | .lookup ty _ _ ok=>fun _=>FN ty ok
 | .mapUpdate ty _ _ _=>fun _=>nD ty
 | .insert ty _ _ _=>fun _=>nD ty
 | .waits g=>fun ng=>Lm g ng
 | .call c=>match c.callee with
   | .value _=>fun _=>LH
   | .builtin b=>fun _=>opB b c.args.toList c.argTypes.toList
   | _=>fun _=>Bj 110
 | _=>fun _=>Bj 111
def aX:Op→List Operand
 | .alloc _ | .ready _ | .waits _=>[]
 | .move x | .assign x | .box _ x | .load _ x | .nilCheck x | .unOp _ _ x | .convert _ _ x | .sliceToArrayPointer _ x | .makeInterface _ x
 | .makeChan _ x | .fieldAddr _ x _ | .field _ x _ | .range _ x | .next x _ | .entry x | .typeAssert x _ _ _ | .extract x _ | .panic x | .recv _ x _=>[x]
 | .pick c a b=>[c,a,b]
 | .build _ ⟨ps⟩ | .buildSlice _ _ ⟨ps⟩=>ps.map (·.2)
 | .store _ a v | .binOp _ _ a v _ | .makeSlice _ a v | .indexAddr _ a v | .index _ a v | .lookup _ a v _ | .mapEntry _ a v | .send a v=>[a,v]
 | .makeFunc _ ⟨first⟩ ⟨captured⟩=>first++captured
 | .makeMap _ r=>r.toList
 | .slice _ x l h m=>x::(l.toList++(h.toList++m.toList))
 | .mapUpdate _ m k v | .entryStore _ m k v | .insert _ m k v=>[m,k,v]
 | .call c=>match c.callee,c.args with
   | .value f,⟨as⟩=>f::as
   | .invoke r _,⟨as⟩=>r::as
   | .builtin _,⟨as⟩=>as
 | op=>op.operands.toList
def isQ (op:Op):Bool:=match op with
 | .move _ | .assign _ | .pick _ _ _ | .build _ _ | .load _ _ | .nilCheck _ | .binOp _ _ _ _ _ | .unOp _ _ _ | .convert _ _ _ | .makeFunc _ _ _ | .fieldAddr _ _ _ | .field _ _ _ | .indexAddr _ _ _ | .index _ _ _ | .extract _ _
 | .slice _ _ _ _ _ | .lookup _ _ _ _ | .waits _=>true
 | .call c=>match c.callee with
   | .builtin .len | .builtin .cap | .builtin .max | .builtin .min=>true
   | _=>false
 | _=>false
noncomputable def og {R:Type} (dst:Option Tmp):Tr V→V→(Tr V→R)→R:=match dst with
 | none=>fun env _ K=>K env
 | some d=>fun env v K=>(bOf d).gX env (some v) K
noncomputable def jy {R α:Type} (j:Nat):List α→(α→R)→R→R:=
 Nat.rec (motive:=fun _=>List α→(α→R)→R→R) (fun l K e=>match l with | x::_=>K x | []=>e) (fun _ ih l K e=>match l with | _::l=>ih l K e | []=>e) j
abbrev KE:=Tr V→Tr Obj→B→R
noncomputable def stepG (g:Option (Nat×Bool)):List Oper→Option Tmp→H→List Operand→(Nat→TE)→Cl→Nat→Tr V→Tr Obj→B→KE→R:=match g with
 | none=>fun _ dst h xs T call ng env t nx k=>pJ xs ng env fun vals=>h T call vals t nx fun v t nx=>og dst env v fun env=>k env t nx
 | some (j,want)=>fun all dst h xs T call ng env t nx k=>jy j all (fun o=>gZ o.dst (fun d=>opK (.tmp d) ng env fun v=>
   asBool v (fun b=>aG (lY b want) (pJ xs ng env fun vals=>h T call vals t nx fun v t nx=>og dst env v fun env=>k env t nx) (og dst env .undef fun env=>k env t nx))
    (lQ v (og dst env .undef fun env=>k env t nx) (.bad 112))) (.bad 113)) (.bad 113)
noncomputable def xQ (os:List Oper):(all:List Oper)→(Nat→TE)→Cl→Nat→Tr V→Tr Obj→B→KE→R:=
 List.rec (motive:=fun _=>List Oper→(Nat→TE)→Cl→Nat→Tr V→Tr Obj→B→KE→R) (fun _ _ _ _ env t nx K=>K env t nx)
  (fun o _ ih all T call ng env t nx K=>stepG o.guard all o.dst (opH o.op ng) (aX o.op) T call ng env t nx fun env t nx=>ih all T call ng env t nx K) os
inductive DI where
 | q (k back:Nat) | z (k:Nat) | c (k:Nat) | f (m n a b:Nat)
def DI.k:DI→Nat | .q k _=>k | .z k=>k | .c k=>k | .f _ _ _ _=>0
def DI.cl:DI→Nat | .q _ _=>0 | .z _=>1 | .c _=>2 | .f _ _ _ _=>0
def DI.back:DI→Nat | .q _ b=>b | _=>0
noncomputable def MH:V→V→Bool
 | .bool a,.bool b=>lY a b
 | .int k a,.int k' b=>and (Nat.beq (ikN k) (ikN k')) (eqI a b)
 | .str l n,.str l' n'=>and (Nat.beq l l') (Nat.beq n n')
 | .dQ,.dQ=>true
 | .ptr i o,.ptr i' o'=>and (Nat.beq (yC i) (yC i')) (Nat.beq o o')
 | .aj,.aj=>true
 | .dW,.dW=>true
 | .sl i sz o l c,.sl i' sz' o' l' c'=>and (and (Nat.beq (yC i) (yC i')) (Nat.beq sz sz')) (and (Nat.beq o o') (and (Nat.beq l l') (eqO c c')))
 | .eP,.eP=>true
 | .map i,.map i'=>Nat.beq (yC i) (yC i')
 | .eY,.eY=>true
 | .fn f [] [],.fn f' [] []=>Nat.beq f f'
 | .fE,.fE=>true
 | .undef,.undef=>true
 | _,_=>false
noncomputable def vJ (a:List V):List V→Bool:=
 List.rec (motive:=fun _=>List V→Bool) (fun b=>match b with | []=>true | _=>false) (fun x _ ih b=>match b with | y::ys=>and (MH x y) (ih ys) | []=>false) a
noncomputable def eqW (a b:V):Bool:=asAgg a (fun xs=>asAgg b (fun ys=>vJ xs ys) false) (uQ a (fun xs=>uQ b (fun ys=>vJ xs ys) false) (zO a (fun f xs ys=>zO b (fun f' xs' ys'=>and (Nat.beq f f') (and (vJ xs xs') (vJ ys ys'))) false) (MH a b)))
noncomputable def Xa (n:Nat):List (Tr Obj×B)→(Tr Obj→B→R→R)→R→R:=
 Nat.rec (motive:=fun _=>List (Tr Obj×B)→(Tr Obj→B→R→R)→R→R) (fun _ _ e=>e) (fun _ ih hs f e=>match hs with | h::hs=>f h.1 h.2 (ih hs f e) | [] => .bad 130) n
noncomputable def hdK (hs:List (Tr Obj×B)):(Tr Obj→B→List (Tr Obj×B)→R)→R:=match hs with | h::hs=>fun K=>K h.1 h.2 hs | []=>fun _ => .bad 130
noncomputable def qK (back:Nat) (hs:List (Tr Obj×B)) (h:H):H:=fun T call vals t nx K=>
 hdK hs fun t0 nx0 hs=>h T call vals t0 nx0 fun v _ _=>Xa back hs (fun t' nx' e=>h T call vals t' nx' fun v' _ _=>aG (eqW v v') e (.bad 131)) (K v t nx)
noncomputable def qV (its:List DI):(all:List Oper)→(Nat→TE)→Cl→Nat→Tr V→Tr Obj→B→List (Tr Obj×B)→KE→R:=
 List.rec (motive:=fun _=>List Oper→(Nat→TE)→Cl→Nat→Tr V→Tr Obj→B→List (Tr Obj×B)→KE→R) (fun _ _ _ _ env t nx _ K=>K env t nx)
  (fun it _ ih all T call ng env t nx hs K=>match it with
   | .q k back=>jy k all (fun o=>stepG o.guard all o.dst (qK back hs (opH o.op ng)) (aX o.op) T call ng env t nx fun env t nx=>ih all T call ng env t nx hs K) (.bad 132)
   | .z k=>jy k all (fun o=>stepG o.guard all o.dst (opH o.op ng) (aX o.op) T call ng env t nx fun env t nx=>ih all T call ng env t nx hs K) (.bad 132)
   | .c k=>jy k all (fun o=>stepG o.guard all o.dst (opH o.op ng) (aX o.op) T call ng env t nx fun env t nx=>ih all T call ng env t nx ((t,nx)::hs) K) (.bad 132)
   | .f _ _ _ _ => .bad 133) its
noncomputable def Ae (its:List DI):(all:List Oper)→(Nat→TE)→Cl→Nat→Tr V→Tr Obj→B→List (Tr Obj×B)→(Tr V→Tr Obj→B→List (Tr Obj×B)→R)→R:=
 List.rec (motive:=fun _=>List Oper→(Nat→TE)→Cl→Nat→Tr V→Tr Obj→B→List (Tr Obj×B)→(Tr V→Tr Obj→B→List (Tr Obj×B)→R)→R) (fun _ _ _ _ env t nx hs K=>K env t nx hs)
  (fun it _ ih all T call ng env t nx hs K=>match it with
   | .q k back=>jy k all (fun o=>stepG o.guard all o.dst (qK back hs (opH o.op ng)) (aX o.op) T call ng env t nx fun env t nx=>ih all T call ng env t nx hs K) (.bad 132)
   | .z k=>jy k all (fun o=>stepG o.guard all o.dst (opH o.op ng) (aX o.op) T call ng env t nx fun env t nx=>ih all T call ng env t nx hs K) (.bad 132)
   | .c k=>jy k all (fun o=>stepG o.guard all o.dst (opH o.op ng) (aX o.op) T call ng env t nx fun env t nx=>ih all T call ng env t nx ((t,nx)::hs) K) (.bad 132)
   | .f _ _ _ _ => .bad 133) its
noncomputable def YT:Option V→Option V→Bool
 | some a,some b=>eqW a b
 | none,none=>true
 | _,_=>false
noncomputable def agree (all:List Oper) (l:List DI):Tr V→Tr V→Bool:=
 List.rec (motive:=fun _=>Tr V→Tr V→Bool) (fun _ _=>true) (fun it _ ih e1 e2=>and (match all[it.k]? with | some o=>(match o.dst with | some d=>YT ((bOf d).get e1) ((bOf d).get e2) | none=>true) | none=>false) (ih e1 e2)) l
noncomputable def J8 (all:List Oper) (k ng:Nat) (env:Tr V):Option B:=match all[k]? with
 | some o=>(match o.op with | .store _ x _=>opK x ng env fun v=>gW v (fun id _=>some id) none | _=>none)
 | none=>none
noncomputable def apartB:Option B→Option B→Bool
 | some i,some j=>not (Nat.beq i.n j.n)
 | _,_=>false
noncomputable def Ph (m n a b:Nat) (rest:List DI) (all:List Oper) (T:Nat→TE) (call:Cl) (ng:Nat) (env:Tr V) (t:Tr Obj) (nx:B) (K:KE):R:=
 Ae (rest.take m) all T call ng env t nx [(t,nx)] fun env0 t0 nx0 hs0=>
 Ae ((rest.drop m).take n) all T call ng env0 t0 nx0 hs0 fun env1 t1 nx1 _=>
 Ae ((rest.drop m).drop n) all T call ng env0 t0 nx0 hs0 fun env2 _ _ _=>
  aG (and (agree all ((rest.drop m).take n) env1 env2) (and (agree all ((rest.drop m).drop n) env1 env2) (apartB (J8 all a ng env1) (J8 all b ng env1)))) (K env1 t1 nx1) (.bad 140)
noncomputable def Xl (its:List DI) (all:List Oper) (T:Nat→TE) (call:Cl) (ng:Nat) (env:Tr V) (t:Tr Obj) (nx:B) (K:KE):R:=match its with
 | .f m n a b::rest=>Ph m n a b rest all T call ng env t nx K
 | its=>qV its all T call ng env t nx [(t,nx)] K
structure FE where
 pre:List V→Tr Obj→B→FR→FR
 body:Code
 res:List ResultVar
 nt:Nat
 ann:Nat→List DI
noncomputable def KL (k:TK):Nat→Tr V→Nat→(V→FR)→FR:=match k with
 | .none=>fun _ _ _ _ => .bad 1
 | .agg _=>fun n cs off K=>nH n cs off (fun vs=>K (.agg vs)) (.bad 1)
 | .arr _ _=>fun n cs off K=>nH n cs off (fun vs=>K (.agg vs)) (.bad 1)
 | _=>fun _ cs off K=>Option.rec (motive:=fun _=>FR) (.bad 2) (fun v=>K v) ((bOf off).get cs)
noncomputable def aef (r:ResultVar):(Nat→TE)→Nat→Tr V→Tr Obj→(V→FR)→FR:=
 match r with
 | .tmp x=>fun _ ng env _ K=>opK (.tmp x) ng env K
 | .cell x ty=>fun T ng env t K=>opK (.tmp x) ng env fun v=>gW v (fun id off=>fP (id.get t) (fun _ _ _ cs=>KL (T ty).k (T ty).size cs off K) (.bad 116)) (.bad 117)
noncomputable def Ea (rs:List ResultVar):(Nat→TE)→Nat→Tr V→Tr Obj→(List V→FR)→FR:=
 List.rec (motive:=fun _=>(Nat→TE)→Nat→Tr V→Tr Obj→(List V→FR)→FR) (fun _ _ _ _ K=>K []) (fun r _ ih T ng env t K=>aef r T ng env t fun v=>ih T ng env t fun vs=>K (v::vs)) rs
noncomputable def resV (rs:List ResultVar) (T:Nat→TE) (ng:Nat) (env:Tr V) (t:Tr Obj) (K:V→FR):FR:=
 Ea rs T ng env t fun vs=>l1 vs K (K (.tup vs))
noncomputable def YV (x:X):List ResultVar→(Nat→TE)→Nat→Tr V→Tr Obj→B→FR:=match x with
 | .nrm=>fun rs T ng env t nx=>resV rs T ng env t fun v => .ret v t nx
 | .ret=>fun rs T ng env t nx=>resV rs T ng env t fun v => .ret v t nx
 | .ex _=>fun _ _ _ _ _ _ => .bad 118
end Go.Sim
