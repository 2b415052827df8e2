/- Sim: an interpreter of the model's code, to be evaluated by the kernel: blocks are known by ids, a capacity may be unknown, a map is a list. (Printed by a program, gen.py.) -/
import Derived.Test.YtpmapognbdiahaaGreatDoorSimTOne
set_option linter.all false
namespace Go.Sim
open Go
open Go.Abs (TE TK SK)
inductive V where
 | bool (b:Bool)
 | int (k:IntKind) (n:Int)
 | str (l n:Nat)
 | fC
 | ptr (id:B) (off:Nat)
 | aj
 | gq
 | sl (id:B) (sz off len:Nat) (cap:Option Nat)
 | gU
 | map (id:B)
 | gZ
 | fn (f:Nat) (first caps:List V)
 | iy
 | ifc (t:Nat) (v:V)
 | agg (cs:List V)
 | tup (cs:List V)
 | undef
 | any
 deriving Inhabited
inductive Obj where
 | blk (ro:Bool) (sz hi:Nat) (cs:Tr V)
 | map (kt:Nat) (es:List (V×V))
inductive X where
 | nrm | ex (id:Nat) | ret
inductive R where
 | bad (why:Nat)
 | ok (x:X) (env:Tr V) (t:Tr Obj) (nx:B)
inductive FR where
 | bad (why:Nat)
 | ret (v:V) (t:Tr Obj) (nx:B)
noncomputable def asBool {α:Type} (v:V):(Bool→α)→α→α:=
 V.rec (motive_1:=fun _=>(Bool→α)→α→α) (motive_2:=fun _=>PUnit) (fun x0=>fun K _=>K x0) (fun _ _=>fun _ e=>e) (fun _ _=>fun _ e=>e) (fun _ e=>e) (fun _ _=>fun _ e=>e) (fun _ e=>e) (fun _ e=>e) (fun _ _ _ _ _=>fun _ e=>e) (fun _ e=>e) (fun _=>fun _ e=>e) (fun _ e=>e) (fun _ _ _ _ _=>fun _ e=>e) (fun _ e=>e) (fun _ _ _=>fun _ e=>e) (fun _ _=>fun _ e=>e) (fun _ _=>fun _ e=>e) (fun _ e=>e) (fun _ e=>e) PUnit.unit (fun _ _ _ _=>PUnit.unit) v
noncomputable def asInt {α:Type} (v:V):(IntKind→Int→α)→α→α:=
 V.rec (motive_1:=fun _=>(IntKind→Int→α)→α→α) (motive_2:=fun _=>PUnit) (fun _=>fun _ e=>e) (fun x0 x1=>fun K _=>K x0 x1) (fun _ _=>fun _ e=>e) (fun _ e=>e) (fun _ _=>fun _ e=>e) (fun _ e=>e) (fun _ e=>e) (fun _ _ _ _ _=>fun _ e=>e) (fun _ e=>e) (fun _=>fun _ e=>e) (fun _ e=>e) (fun _ _ _ _ _=>fun _ e=>e) (fun _ e=>e) (fun _ _ _=>fun _ e=>e) (fun _ _=>fun _ e=>e) (fun _ _=>fun _ e=>e) (fun _ e=>e) (fun _ e=>e) PUnit.unit (fun _ _ _ _=>PUnit.unit) v
noncomputable def jo {α:Type} (v:V):(Nat→Nat→α)→α→α:=
 V.rec (motive_1:=fun _=>(Nat→Nat→α)→α→α) (motive_2:=fun _=>PUnit) (fun _=>fun _ e=>e) (fun _ _=>fun _ e=>e) (fun x0 x1=>fun K _=>K x0 x1) (fun _ e=>e) (fun _ _=>fun _ e=>e) (fun _ e=>e) (fun _ e=>e) (fun _ _ _ _ _=>fun _ e=>e) (fun _ e=>e) (fun _=>fun _ e=>e) (fun _ e=>e) (fun _ _ _ _ _=>fun _ e=>e) (fun _ e=>e) (fun _ _ _=>fun _ e=>e) (fun _ _=>fun _ e=>e) (fun _ _=>fun _ e=>e) (fun _ e=>e) (fun _ e=>e) PUnit.unit (fun _ _ _ _=>PUnit.unit) v
noncomputable def jr {α:Type} (v:V):(B→Nat→α)→α→α:=
 V.rec (motive_1:=fun _=>(B→Nat→α)→α→α) (motive_2:=fun _=>PUnit) (fun _=>fun _ e=>e) (fun _ _=>fun _ e=>e) (fun _ _=>fun _ e=>e) (fun _ e=>e) (fun x0 x1=>fun K _=>K x0 x1) (fun _ e=>e) (fun _ e=>e) (fun _ _ _ _ _=>fun _ e=>e) (fun _ e=>e) (fun _=>fun _ e=>e) (fun _ e=>e) (fun _ _ _ _ _=>fun _ e=>e) (fun _ e=>e) (fun _ _ _=>fun _ e=>e) (fun _ _=>fun _ e=>e) (fun _ _=>fun _ e=>e) (fun _ e=>e) (fun _ e=>e) PUnit.unit (fun _ _ _ _=>PUnit.unit) v
noncomputable def mZ {α:Type} (v:V):(B→Nat→Nat→Nat→(Option Nat)→α)→α→α:=
 V.rec (motive_1:=fun _=>(B→Nat→Nat→Nat→(Option Nat)→α)→α→α) (motive_2:=fun _=>PUnit) (fun _=>fun _ e=>e) (fun _ _=>fun _ e=>e) (fun _ _=>fun _ e=>e) (fun _ e=>e) (fun _ _=>fun _ e=>e) (fun _ e=>e) (fun _ e=>e) (fun x0 x1 x2 x3 x4=>fun K _=>K x0 x1 x2 x3 x4) (fun _ e=>e) (fun _=>fun _ e=>e) (fun _ e=>e) (fun _ _ _ _ _=>fun _ e=>e) (fun _ e=>e) (fun _ _ _=>fun _ e=>e) (fun _ _=>fun _ e=>e) (fun _ _=>fun _ e=>e) (fun _ e=>e) (fun _ e=>e) PUnit.unit (fun _ _ _ _=>PUnit.unit) v
noncomputable def Az {α:Type} (v:V):(B→α)→α→α:=
 V.rec (motive_1:=fun _=>(B→α)→α→α) (motive_2:=fun _=>PUnit) (fun _=>fun _ e=>e) (fun _ _=>fun _ e=>e) (fun _ _=>fun _ e=>e) (fun _ e=>e) (fun _ _=>fun _ e=>e) (fun _ e=>e) (fun _ e=>e) (fun _ _ _ _ _=>fun _ e=>e) (fun _ e=>e) (fun x0=>fun K _=>K x0) (fun _ e=>e) (fun _ _ _ _ _=>fun _ e=>e) (fun _ e=>e) (fun _ _ _=>fun _ e=>e) (fun _ _=>fun _ e=>e) (fun _ _=>fun _ e=>e) (fun _ e=>e) (fun _ e=>e) PUnit.unit (fun _ _ _ _=>PUnit.unit) v
noncomputable def La {α:Type} (v:V):(Nat→(List V)→(List V)→α)→α→α:=
 V.rec (motive_1:=fun _=>(Nat→(List V)→(List V)→α)→α→α) (motive_2:=fun _=>PUnit) (fun _=>fun _ e=>e) (fun _ _=>fun _ e=>e) (fun _ _=>fun _ e=>e) (fun _ e=>e) (fun _ _=>fun _ e=>e) (fun _ e=>e) (fun _ e=>e) (fun _ _ _ _ _=>fun _ e=>e) (fun _ e=>e) (fun _=>fun _ e=>e) (fun _ e=>e) (fun x0 x1 x2 _ _=>fun K _=>K x0 x1 x2) (fun _ e=>e) (fun _ _ _=>fun _ e=>e) (fun _ _=>fun _ e=>e) (fun _ _=>fun _ e=>e) (fun _ e=>e) (fun _ e=>e) PUnit.unit (fun _ _ _ _=>PUnit.unit) v
noncomputable def asAgg {α:Type} (v:V):((List V)→α)→α→α:=
 V.rec (motive_1:=fun _=>((List V)→α)→α→α) (motive_2:=fun _=>PUnit) (fun _=>fun _ e=>e) (fun _ _=>fun _ e=>e) (fun _ _=>fun _ e=>e) (fun _ e=>e) (fun _ _=>fun _ e=>e) (fun _ e=>e) (fun _ e=>e) (fun _ _ _ _ _=>fun _ e=>e) (fun _ e=>e) (fun _=>fun _ e=>e) (fun _ e=>e) (fun _ _ _ _ _=>fun _ e=>e) (fun _ e=>e) (fun _ _ _=>fun _ e=>e) (fun x0 _=>fun K _=>K x0) (fun _ _=>fun _ e=>e) (fun _ e=>e) (fun _ e=>e) PUnit.unit (fun _ _ _ _=>PUnit.unit) v
noncomputable def Au {α:Type} (v:V):((List V)→α)→α→α:=
 V.rec (motive_1:=fun _=>((List V)→α)→α→α) (motive_2:=fun _=>PUnit) (fun _=>fun _ e=>e) (fun _ _=>fun _ e=>e) (fun _ _=>fun _ e=>e) (fun _ e=>e) (fun _ _=>fun _ e=>e) (fun _ e=>e) (fun _ e=>e) (fun _ _ _ _ _=>fun _ e=>e) (fun _ e=>e) (fun _=>fun _ e=>e) (fun _ e=>e) (fun _ _ _ _ _=>fun _ e=>e) (fun _ e=>e) (fun _ _ _=>fun _ e=>e) (fun _ _=>fun _ e=>e) (fun x0 _=>fun K _=>K x0) (fun _ e=>e) (fun _ e=>e) PUnit.unit (fun _ _ _ _=>PUnit.unit) v
noncomputable def cellsOf (v:V):List V:=
 V.rec (motive_1:=fun _=>List V) (motive_2:=fun _=>PUnit) (fun _=>[v]) (fun _ _=>[v]) (fun _ _=>[v]) ([v]) (fun _ _=>[v]) ([v]) ([v]) (fun _ _ _ _ _=>[v]) ([v]) (fun _=>[v]) ([v]) (fun _ _ _ _ _=>[v]) ([v]) (fun _ _ _=>[v]) (fun x0 _=>x0) (fun _ _=>[v]) ([v]) ([v]) PUnit.unit (fun _ _ _ _=>PUnit.unit) v
noncomputable def qO {α:Type} (v:V):(V→α)→α→α:=
 V.rec (motive_1:=fun _=>(V→α)→α→α) (motive_2:=fun _=>PUnit) (fun _=>fun _ e=>e) (fun _ _=>fun _ e=>e) (fun _ _=>fun _ e=>e) (fun _ e=>e) (fun _ _=>fun _ e=>e) (fun K _=>K .aj) (fun K _=>K .gq) (fun _ _ _ _ _=>fun _ e=>e) (fun _ e=>e) (fun _=>fun _ e=>e) (fun _ e=>e) (fun _ _ _ _ _=>fun _ e=>e) (fun _ e=>e) (fun _ _ _=>fun _ e=>e) (fun _ _=>fun _ e=>e) (fun _ _=>fun _ e=>e) (fun _ e=>e) (fun _ e=>e) PUnit.unit (fun _ _ _ _=>PUnit.unit) v
noncomputable def KA {α:Type} (v:V):α→α→α:=
 V.rec (motive_1:=fun _=>α→α→α) (motive_2:=fun _=>PUnit) (fun _=>fun _ e=>e) (fun _ _=>fun _ e=>e) (fun _ _=>fun _ e=>e) (fun _ e=>e) (fun _ _=>fun _ e=>e) (fun _ e=>e) (fun _ e=>e) (fun _ _ _ _ _=>fun _ e=>e) (fun a _=>a) (fun _=>fun _ e=>e) (fun _ e=>e) (fun _ _ _ _ _=>fun _ e=>e) (fun _ e=>e) (fun _ _ _=>fun _ e=>e) (fun _ _=>fun _ e=>e) (fun _ _=>fun _ e=>e) (fun _ e=>e) (fun _ e=>e) PUnit.unit (fun _ _ _ _=>PUnit.unit) v
noncomputable def qj {α:Type} (v:V):α→α→α:=
 V.rec (motive_1:=fun _=>α→α→α) (motive_2:=fun _=>PUnit) (fun _=>fun _ e=>e) (fun _ _=>fun _ e=>e) (fun _ _=>fun _ e=>e) (fun _ e=>e) (fun _ _=>fun _ e=>e) (fun _ e=>e) (fun _ e=>e) (fun _ _ _ _ _=>fun _ e=>e) (fun _ e=>e) (fun _=>fun _ e=>e) (fun _ e=>e) (fun _ _ _ _ _=>fun _ e=>e) (fun _ e=>e) (fun _ _ _=>fun _ e=>e) (fun _ _=>fun _ e=>e) (fun _ _=>fun _ e=>e) (fun a _=>a) (fun _ e=>e) PUnit.unit (fun _ _ _ _=>PUnit.unit) v
noncomputable def aT {R:Type} (m:Nat) (K:Nat→R):R:=Nat.rec (motive:=fun _=>(Nat→R)→R) (fun K=>K 0) (fun p _ K=>K (Nat.succ p)) m K
noncomputable def kE {R:Type} (n:Int) (K:Int→R):R:=Int.rec (motive:=fun _=>(Int→R)→R) (fun m K=>aT m fun m=>K (.ofNat m)) (fun m K=>aT m fun m=>K (.negSucc m)) n K
noncomputable def dI {R:Type} (b:Bool) (K:Bool→R):R:=Bool.rec (motive:=fun _=>(Bool→R)→R) (fun K=>K false) (fun K=>K true) b K
noncomputable def aJ {R:Type} (b:Bool) (x y:R):R:=Bool.rec (motive:=fun _=>R) y x b
def ikN:IntKind→Nat | .i8=>0 | .i16=>1 | .i32=>2 | .i64=>3 | .u8=>4 | .u16=>5 | .u32=>6 | .u64=>7
def Am:List UInt8→Nat→Nat
 | [],acc=>acc
 | b::bs,acc=>Am bs (acc*256+b.toNat)
abbrev maxL:Nat:=9223372036854775807
def eqO:Option Nat→Option Nat→Bool | none,none=>true | some a,some b=>Nat.beq a b | _,_=>false
noncomputable def cStr (s:List UInt8):V:=aJ (Nat.ble s.length maxL) (.str s.length (Am s 0)) .any
noncomputable def cV1:Value→V
 | .bool b => .bool b
 | .int k n => .int k n
 | .string s=>cStr s.data.toList
 | .slice none 0 0 => .aj
 | .pointer none => .fC
 | .map none => .gU
 | .nilFunc => .gZ
 | .nilIface => .iy
 | _ => .any
noncomputable def cVs:List Value→List V
 | []=>[]
 | v::vs=>cV1 v::cVs vs
noncomputable def L9 (v:V):Bool:=
 V.rec (motive_1:=fun _=>Bool) (motive_2:=fun _=>PUnit) (fun _=>false) (fun _ _=>false) (fun _ _=>false) (true) (fun _ _=>false) (false) (false) (fun _ _ _ _ _=>false) (false) (fun _=>false) (false) (fun _ _ _ _ _=>false) (false) (fun _ _ _=>false) (fun _ _=>false) (fun _ _=>false) (false) (false) PUnit.unit (fun _ _ _ _=>PUnit.unit) v
noncomputable def ag8 (v:V):Bool:=
 V.rec (motive_1:=fun _=>Bool) (motive_2:=fun _=>PUnit) (fun _=>false) (fun _ _=>false) (fun _ _=>false) (false) (fun _ _=>true) (false) (false) (fun _ _ _ _ _=>false) (false) (fun _=>false) (false) (fun _ _ _ _ _=>false) (false) (fun _ _ _=>false) (fun _ _=>false) (fun _ _=>false) (false) (false) PUnit.unit (fun _ _ _ _=>PUnit.unit) v
noncomputable def L8 (v:V):Bool:=
 V.rec (motive_1:=fun _=>Bool) (motive_2:=fun _=>PUnit) (fun _=>false) (fun _ _=>false) (fun _ _=>false) (false) (fun _ _=>false) (true) (false) (fun _ _ _ _ _=>false) (false) (fun _=>false) (false) (fun _ _ _ _ _=>false) (false) (fun _ _ _=>false) (fun _ _=>false) (fun _ _=>false) (false) (false) PUnit.unit (fun _ _ _ _=>PUnit.unit) v
noncomputable def ag9 (v:V):Bool:=
 V.rec (motive_1:=fun _=>Bool) (motive_2:=fun _=>PUnit) (fun _=>false) (fun _ _=>false) (fun _ _=>false) (false) (fun _ _=>false) (false) (false) (fun _ _ _ _ _=>false) (false) (fun _=>true) (false) (fun _ _ _ _ _=>false) (false) (fun _ _ _=>false) (fun _ _=>false) (fun _ _=>false) (false) (false) PUnit.unit (fun _ _ _ _=>PUnit.unit) v
noncomputable def Mc (v:V):Bool:=
 V.rec (motive_1:=fun _=>Bool) (motive_2:=fun _=>PUnit) (fun _=>false) (fun _ _=>false) (fun _ _=>false) (false) (fun _ _=>false) (false) (false) (fun _ _ _ _ _=>false) (true) (fun _=>false) (false) (fun _ _ _ _ _=>false) (false) (fun _ _ _=>false) (fun _ _=>false) (fun _ _=>false) (false) (false) PUnit.unit (fun _ _ _ _=>PUnit.unit) v
noncomputable def Md (v:V):Bool:=
 V.rec (motive_1:=fun _=>Bool) (motive_2:=fun _=>PUnit) (fun _=>false) (fun _ _=>false) (fun _ _=>false) (false) (fun _ _=>false) (false) (false) (fun _ _ _ _ _=>false) (false) (fun _=>false) (true) (fun _ _ _ _ _=>false) (false) (fun _ _ _=>false) (fun _ _=>false) (fun _ _=>false) (false) (false) PUnit.unit (fun _ _ _ _=>PUnit.unit) v
noncomputable def pFn (v:V):Bool:=
 V.rec (motive_1:=fun _=>Bool) (motive_2:=fun _=>PUnit) (fun _=>false) (fun _ _=>false) (fun _ _=>false) (false) (fun _ _=>false) (false) (false) (fun _ _ _ _ _=>false) (false) (fun _=>false) (false) (fun _ _ _ _ _=>true) (false) (fun _ _ _=>false) (fun _ _=>false) (fun _ _=>false) (false) (false) PUnit.unit (fun _ _ _ _=>PUnit.unit) v
noncomputable def pSl (v:V):Bool:=
 V.rec (motive_1:=fun _=>Bool) (motive_2:=fun _=>PUnit) (fun _=>false) (fun _ _=>false) (fun _ _=>false) (false) (fun _ _=>false) (false) (false) (fun _ _ _ x3 _=>Nat.blt 0 x3) (false) (fun _=>false) (false) (fun _ _ _ _ _=>false) (false) (fun _ _ _=>false) (fun _ _=>false) (fun _ _=>false) (false) (false) PUnit.unit (fun _ _ _ _=>PUnit.unit) v
noncomputable def one (v:V):Bool:=
 V.rec (motive_1:=fun _=>Bool) (motive_2:=fun _=>PUnit) (fun _=>true) (fun _ _=>true) (fun _ _=>true) (true) (fun _ _=>true) (true) (true) (fun _ _ _ _ _=>true) (true) (fun _=>true) (true) (fun _ _ _ _ _=>true) (true) (fun _ _ _=>true) (fun _ _=>false) (fun _ _=>false) (false) (false) PUnit.unit (fun _ _ _ _=>PUnit.unit) v
noncomputable def cV (v:Value):V:=match v with | .agg cs=>aJ (List.all (cVs cs.toList) one) (.agg (cVs cs.toList)) .any | v=>cV1 v
def pNo (_:V):Bool:=false
noncomputable def opK {R:Type} (x:Operand):Nat→Tr V→(V→R)→R:=match x with
 | .tmp t=>fun _ env K=>Option.rec (motive:=fun _=>R) (K .any) (fun v=>K v) ((bOf t).get env)
 | .const v=>fun _ _ K=>K (cV v)
 | .global g=>fun ng _ K=>aJ (Nat.blt g ng) (K (.ptr (bOf g) 0)) (K .any)
 | .func f=>fun _ _ K=>K (.fn f [] [])
noncomputable def vK {R:Type} (xs:List Operand):Nat→Tr V→(List V→R)→R:=
 List.rec (motive:=fun _=>Nat→Tr V→(List V→R)→R) (fun _ _ K=>K []) (fun x _ ih ng env K=>opK x ng env fun v=>ih ng env fun vs=>K (v::vs)) xs
noncomputable def l1 {R:Type} (l:List V):(V→R)→R→R:=match l with | [a]=>fun K _=>K a | _=>fun _ e=>e
noncomputable def l2 {R:Type} (l:List V):(V→V→R)→R→R:=match l with | [a,b]=>fun K _=>K a b | _=>fun _ e=>e
noncomputable def l3 {R:Type} (l:List V):(V→V→V→R)→R→R:=match l with | [a,b,c]=>fun K _=>K a b c | _=>fun _ e=>e
noncomputable def lc {R:Type} (l:List V):(V→List V→R)→R→R:=match l with | a::b=>fun K _=>K a b | _=>fun _ e=>e
noncomputable def iP {R:Type} (o:Option Obj):(Bool→Nat→Nat→Tr V→R)→R→R:=match o with | some (.blk ro sz hi cs)=>fun K _=>K ro sz hi cs | _=>fun _ e=>e
noncomputable def QY {R:Type} (o:Option Obj):(Nat→List (V×V)→R)→R→R:=match o with | some (.map kt es)=>fun K _=>K kt es | _=>fun _ e=>e
noncomputable def jy {R α:Type} (o:Option α):(α→R)→R→R:=match o with | some v=>fun K _=>K v | none=>fun _ e=>e
noncomputable def rM {R:Type} (n:Nat):Tr V→Nat→(List V→R)→R→R:=
 Nat.rec (motive:=fun _=>Tr V→Nat→(List V→R)→R→R) (fun _ _ K _=>K [])
  (fun _ ih cs off K e=>Option.rec (motive:=fun _=>R) e (fun v=>ih cs (Nat.succ off) (fun vs=>K (v::vs)) e) ((bOf off).get cs)) n
noncomputable def l9 {R:Type} (vs:List V):Tr V→Nat→(Tr V→R)→R:=
 List.rec (motive:=fun _=>Tr V→Nat→(Tr V→R)→R) (fun cs _ K=>K cs)
  (fun v _ ih cs off K=>(bOf off).jv cs (some v) fun cs'=>ih cs' (Nat.succ off) K) vs
noncomputable def P5 {R:Type} (m:Nat):List V→(List V→R)→R:=
 Nat.rec (motive:=fun _=>List V→(List V→R)→R) (fun _ K=>K []) (fun _ ih vs K=>ih vs fun r=>K (vs++r)) m
noncomputable def vX {R:Type} (l:List V):(List V→R)→R:=
 List.rec (motive:=fun _=>(List V→R)→R) (fun K=>K []) (fun v _ ih K=>ih fun vs=>K (v::vs)) l
abbrev KV:=V→Tr Obj→B→R
abbrev Cl:=Nat→List V→Tr Obj→B→FR
abbrev H:=(Nat→TE)→Cl→List V→Tr Obj→B→KV→R
noncomputable def nM {R:Type} (sz:Nat) (cs:Tr V) (t:Tr Obj) (nx:B) (K:Tr Obj→B→R):R:=
 nx.jv t (some (.blk false sz sz cs)) fun t'=>nx.XZ fun nx'=>K t' nx'
noncomputable def mkVar (cs:List V) (t:Tr Obj) (nx:B) (K:KV):R:=
 aJ (List.all cs one) (l9 cs .lf 0 fun tr=>aT cs.length fun n=>nM n tr t nx fun t' nx'=>K (.ptr nx 0) t' nx') (.bad 90)
noncomputable def Ii {R:Type} (k:TK):Nat→Tr V→Nat→(V→R)→R→R:=match k with
 | .none=>fun _ _ _ _ e=>e
 | .agg _=>fun n cs off K e=>rM n cs off (fun vs=>K (.agg vs)) e
 | .arr _ _=>fun n cs off K e=>rM n cs off (fun vs=>K (.agg vs)) e
 | _=>fun _ cs off K e=>Option.rec (motive:=fun _=>R) e (fun v=>K v) ((bOf off).get cs)
noncomputable def aak (ty:Nat):H:=fun T _ vals t nx K=>
 l1 vals (fun p=>jr p (fun id off=>iP (id.get t) (fun _ _ _ cs=>Ii (T ty).k (T ty).size cs off (fun v=>K v t nx) (.bad 2)) (.bad 3)) (.bad 4)) (.bad 4)
noncomputable def oO {R:Type} (id:B) (off:Nat) (vs:List V) (t:Tr Obj) (K:Tr Obj→R) (e:R):R:=
 iP (id.get t) (fun ro sz hi cs=>aJ ro e (aT (Nat.add off vs.length) fun en=>aJ (and (Nat.ble en sz) (List.all vs one)) (l9 vs cs off fun cs'=>aT (Nat.max hi en) fun hi'=>id.jv t (some (.blk false sz hi' cs')) K) e)) e
noncomputable def zO (ty:Nat):H:=fun T _ vals t nx K=>
 l2 vals (fun p v=>jr p (fun id off=>aJ (and (Abs.TE.known (T ty)) (Nat.beq (T ty).size (cellsOf v).length)) (oO id off (cellsOf v) t (fun t'=>K .any t' nx) (.bad 5)) (.bad 6)) (.bad 7)) (.bad 7)
def ql (k:TK) (f:Nat):Option (Nat×Nat×Bool):=match k with | .agg fs=>fs[f]? | _=>none
noncomputable def X9 {R:Type} (o:Option (Nat×Nat×Bool)):(Nat→Nat→Bool→R)→R→R:=match o with | some (a,b,c)=>fun K _=>K a b c | none=>fun _ e=>e
noncomputable def zV (ty f:Nat):H:=fun T _ vals t nx K=>
 X9 (ql (T ty).k f) (fun fo fsz _=>aJ (Nat.blt 0 fsz) (l1 vals (fun p=>jr p (fun id off=>aT (Nat.add off fo) fun o=>K (.ptr id o) t nx) (.bad 8)) (.bad 8)) (.bad 8)) (.bad 8)
def part (b:Bool):List V→Nat→Nat→Option V:=match b with | true=>fun cs off n=>some (.agg ((cs.drop off).take n)) | false=>fun cs off _=>cs[off]?
noncomputable def KT {R:Type} (v:V) (K:V→R):R:=asAgg v (fun cs=>vX cs fun cs=>K (.agg cs)) (K v)
noncomputable def Uz (ty f:Nat):H:=fun T _ vals t nx K=>
 X9 (ql (T ty).k f) (fun fo fsz fb=>l1 vals (fun p=>asAgg p (fun cs=>aJ (Nat.ble (Nat.add fo fsz) cs.length) (jy (part fb cs fo fsz) (fun v=>KT v fun v=>K v t nx) (.bad 9)) (.bad 9)) (.bad 10)) (.bad 10)) (.bad 10)
noncomputable def inB {R:Type} (i:Int):Nat→(Nat→R)→R→R:=
 Int.rec (motive:=fun _=>Nat→(Nat→R)→R→R) (fun m len K e=>aJ (Nat.blt m len) (K m) e) (fun _ _ _ e=>e) i
noncomputable def Ky (k:TK):(Nat→TE)→V→V→Tr Obj→B→KV→R:=match k with
 | .slc e=>fun T x i t nx K=>mZ x (fun id sz off len _=>asInt i (fun _ i=>aJ (and (Abs.TE.known (T e)) (Nat.beq sz (T e).size)) (inB i len (fun m=>aT (Nat.add off (Nat.mul m sz)) fun o=>K (.ptr id o) t nx) (.bad 11)) (.bad 12)) (.bad 13)) (.bad 13)
 | .arr n e=>fun T x i t nx K=>jr x (fun id off=>asInt i (fun _ i=>aJ (Abs.TE.known (T e)) (inB i n (fun m=>aT (Nat.add off (Nat.mul m (T e).size)) fun o=>K (.ptr id o) t nx) (.bad 14)) (.bad 14)) (.bad 15)) (.bad 15)
 | _=>fun _ _ _ _ _ _ => .bad 16
noncomputable def zU (ty:Nat):H:=fun T _ vals t nx K=>l2 vals (fun x i=>Ky (T ty).k T x i t nx K) (.bad 16)
noncomputable def Uk (k:TK):(Nat→TE)→V→V→Tr Obj→B→KV→R:=match k with
 | .str=>fun _ x i t nx K=>jo x (fun l n=>asInt i (fun _ i=>inB i l (fun m=>aT (Nat.mod (Nat.shiftRight n (Nat.mul 8 (Nat.sub (Nat.sub l 1) m))) 256) fun c=>K (.int .u8 (.ofNat c)) t nx) (.bad 17)) (.bad 18)) (.bad 18)
 | .arr n e=>fun T x i t nx K=>asAgg x (fun cs=>asInt i (fun _ i=>inB i n (fun m=>aT (Nat.mul m (T e).size) fun o=>aJ (and (Abs.TE.known (T e)) (Nat.ble (Nat.add o (T e).size) cs.length)) (jy (part (T e).k.isAgg cs o (T e).size) (fun v=>KT v fun v=>K v t nx) (.bad 19)) (.bad 19)) (.bad 19)) (.bad 20)) (.bad 20)
 | _=>fun _ _ _ _ _ _ => .bad 22
noncomputable def Uy (ty:Nat):H:=fun T _ vals t nx K=>l2 vals (fun x i=>Uk (T ty).k T x i t nx K) (.bad 22)
noncomputable def inR (k:IntKind):Int→Bool:=
 match k with
 | .i64=>fun n=>Int.rec (motive:=fun _=>Bool) (fun m=>Nat.blt m 9223372036854775808) (fun m=>Nat.blt m 9223372036854775808) n
 | .u8=>fun n=>Int.rec (motive:=fun _=>Bool) (fun m=>Nat.blt m 256) (fun _=>false) n
 | .u64=>fun n=>Int.rec (motive:=fun _=>Bool) (fun m=>Nat.blt m 18446744073709551616) (fun _=>false) n
 | _=>fun _=>false
noncomputable def qK {R:Type} (k:IntKind) (n:Int) (K:Int→R):R:=
 aJ (inR k n) (kE n K) (kE (k.wrap n) K)
noncomputable def ltI (a b:Int):Bool:=Int.rec (motive:=fun _=>Bool) (fun _=>false) (fun _=>true) (Int.sub a b)
def eqI (a b:Int):Bool:=match a,b with | .ofNat m,.ofNat n=>Nat.beq m n | .negSucc m,.negSucc n=>Nat.beq m n | _,_=>false
def isZ (b:Int):Bool:=match b with | .ofNat m=>Nat.beq m 0 | _=>false
abbrev BI:=IntKind→Int→IntKind→Int→(V→R)→R
noncomputable def jl (k k':IntKind) (x:R):R:=aJ (Nat.beq (ikN k) (ikN k')) x (.bad 23)
noncomputable def opI (op:BinOp):BI:=
 match op with
 | .add=>fun k a k' b K=>jl k k' (qK k (Int.add a b) fun n=>K (.int k n))
 | .sub=>fun k a k' b K=>jl k k' (qK k (Int.sub a b) fun n=>K (.int k n))
 | .mul=>fun k a k' b K=>jl k k' (qK k (Int.mul a b) fun n=>K (.int k n))
 | .quo=>fun k a k' b K=>jl k k' (aJ (isZ b) (.bad 24) (qK k (Int.tdiv a b) fun n=>K (.int k n)))
 | .rem=>fun k a k' b K=>jl k k' (aJ (isZ b) (.bad 24) (kE (Int.tmod a b) fun n=>K (.int k n)))
 | .and=>fun k a k' b K=>jl k k' (kE (Abs.bitsOf .and k a b) fun n=>K (.int k n))
 | .or=>fun k a k' b K=>jl k k' (kE (Abs.bitsOf .or k a b) fun n=>K (.int k n))
 | .xor=>fun k a k' b K=>jl k k' (kE (Abs.bitsOf .xor k a b) fun n=>K (.int k n))
 | .andNot=>fun k a k' b K=>jl k k' (kE (Abs.bitsOf .andNot k a b) fun n=>K (.int k n))
 | .eql=>fun k a k' b K=>jl k k' (dI (eqI a b) fun x=>K (.bool x))
 | .neq=>fun k a k' b K=>jl k k' (dI (not (eqI a b)) fun x=>K (.bool x))
 | .lss=>fun k a k' b K=>jl k k' (dI (ltI a b) fun x=>K (.bool x))
 | .leq=>fun k a k' b K=>jl k k' (dI (not (ltI b a)) fun x=>K (.bool x))
 | .gtr=>fun k a k' b K=>jl k k' (dI (ltI b a) fun x=>K (.bool x))
 | .geq=>fun k a k' b K=>jl k k' (dI (not (ltI a b)) fun x=>K (.bool x))
 | .shl=>fun k a _ b K=>inB b 64 (fun s=>kE (k.wrap (Int.mul a (Int.ofNat (Nat.pow 2 (Nat.min s k.bits))))) fun n=>K (.int k n)) (.bad 25)
 | .shr=>fun k a _ b K=>inB b 64 (fun s=>kE (Int.fdiv a (Int.ofNat (Nat.pow 2 (Nat.min s k.bits)))) fun n=>K (.int k n)) (.bad 26)
def strEq (l n l' n':Nat):Bool:=and (Nat.beq l l') (Nat.beq n n')
def strLt (l n l' n':Nat):Bool:=
 or (Nat.blt (Nat.shiftLeft n (Nat.mul 8 (Nat.sub l' l))) (Nat.shiftLeft n' (Nat.mul 8 (Nat.sub l l'))))
  (and (Nat.beq (Nat.shiftLeft n (Nat.mul 8 (Nat.sub l' l))) (Nat.shiftLeft n' (Nat.mul 8 (Nat.sub l l')))) (Nat.blt l l'))
abbrev BS:=Nat→Nat→Nat→Nat→(V→R)→R
noncomputable def opS (op:BinOp):BS:=
 match op with
 | .add=>fun l n l' n' K=>aT (Nat.add l l') fun lz=>aJ (Nat.ble lz maxL) (aT (Nat.add (Nat.shiftLeft n (Nat.mul 8 l')) n') fun z=>K (.str lz z)) (.bad 27)
 | .eql=>fun l n l' n' K=>dI (strEq l n l' n') fun x=>K (.bool x)
 | .neq=>fun l n l' n' K=>dI (not (strEq l n l' n')) fun x=>K (.bool x)
 | .lss=>fun l n l' n' K=>dI (strLt l n l' n') fun x=>K (.bool x)
 | .leq=>fun l n l' n' K=>dI (not (strLt l' n' l n)) fun x=>K (.bool x)
 | .gtr=>fun l n l' n' K=>dI (strLt l' n' l n) fun x=>K (.bool x)
 | .geq=>fun l n l' n' K=>dI (not (strLt l n l' n')) fun x=>K (.bool x)
 | _=>fun _ _ _ _ _ => .bad 27
noncomputable def opE (op:BinOp):Bool→(V→R)→R:=
 match op with
 | .eql=>fun b K=>dI b fun x=>K (.bool x)
 | .neq=>fun b K=>dI (not b) fun x=>K (.bool x)
 | _=>fun _ _ => .bad 28
def qI:Bool→Bool→Bool | true,true=>true | false,false=>true | _,_=>false
def gW:SK→V→Bool
 | .b,.bool _=>true
 | .i k,.int k' _=>Nat.beq (ikN k) (ikN k')
 | .s,.str _ _=>true
 | _,_=>false
noncomputable def fits (ks:List SK):List V→Bool:=
 List.rec (motive:=fun _=>List V→Bool) (fun cs=>match cs with | []=>true | _=>false) (fun k _ ih cs=>match cs with | c::cs=>and (gW k c) (ih cs) | []=>false) ks
def eq1:V→V→Bool
 | .bool a,.bool b=>qI a b
 | .int _ a,.int _ b=>eqI a b
 | .str l n,.str l' n'=>strEq l n l' n'
 | _,_=>false
noncomputable def YB (a:List V):List V→Bool:=
 List.rec (motive:=fun _=>List V→Bool) (fun _=>true) (fun x _ ih b=>match b with | y::ys=>and (eq1 x y) (ih ys) | []=>false) a
noncomputable def ajL (te:TE) (a b:List V) (K:Bool→R):R:=
 aJ (and (and te.k.isAgg (not te.ks.isEmpty)) (and (fits te.ks a) (fits te.ks b))) (dI (YB a b) K) (.bad 29)
def Ui:TK→Bool | .bool=>true | _=>false
def XR:TK→Bool | .ptr=>true | _=>false
def XQ:TK→Bool | .slc _=>true | _=>false
def XT:TK→Bool | .map _ _=>true | _=>false
def kFn:TK→Bool | .fn=>true | _=>false
noncomputable def zx (b:V) (p q:V→Bool) (E:Bool→(V→R)→R) (K:V→R):R:=aJ (p b) (E true K) (aJ (q b) (E false K) (.bad 30))
noncomputable def kM (v:V):TE→BI→BS→(Bool→(V→R)→R)→V→(V→R)→R:=
 V.rec (motive_1:=fun _=>TE→BI→BS→(Bool→(V→R)→R)→V→(V→R)→R) (motive_2:=fun _=>PUnit) (fun x0=>fun te _ _ E b K=>aJ (Ui te.k) (asBool b (fun y=>E (qI x0 y) K) (.bad 29)) (.bad 29)) (fun x0 x1=>fun _ I _ _ b K=>asInt b (fun k' m=>I x0 x1 k' m K) (.bad 29)) (fun x0 x1=>fun _ _ S _ b K=>jo b (fun l' n'=>S x0 x1 l' n' K) (.bad 29)) (fun te _ _ E b K=>aJ (XR te.k) (zx b L9 ag8 E K) (.bad 29)) (fun _ _=>fun te _ _ E b K=>aJ (XR te.k) (zx b pNo L9 E K) (.bad 29)) (fun te _ _ E b K=>aJ (XQ te.k) (zx b L8 pSl E K) (.bad 29)) (fun _ _ _ _ _ _ => .bad 30) (fun _ _ _ x3 _=>fun te _ _ E b K=>aJ (and (XQ te.k) (Nat.blt 0 x3)) (zx b pNo L8 E K) (.bad 29)) (fun te _ _ E b K=>aJ (XT te.k) (zx b Mc ag9 E K) (.bad 29)) (fun _=>fun te _ _ E b K=>aJ (XT te.k) (zx b pNo Mc E K) (.bad 29)) (fun te _ _ E b K=>aJ (kFn te.k) (zx b Md pFn E K) (.bad 29)) (fun _ _ _ _ _=>fun te _ _ E b K=>aJ (kFn te.k) (zx b pNo Md E K) (.bad 29)) (fun _ _ _ _ _ _ => .bad 30) (fun _ _ _=>fun _ _ _ _ _ _ => .bad 30) (fun x0 _=>fun te _ _ E b K=>asAgg b (fun ys=>ajL te x0 ys (fun x=>E x K)) (.bad 29)) (fun _ _=>fun _ _ _ _ _ _ => .bad 30) (fun _ _ _ _ _ _ => .bad 30) (fun _ _ _ _ _ _ => .bad 30) PUnit.unit (fun _ _ _ _=>PUnit.unit) v
noncomputable def ahx (op:BinOp) (ty:Nat):H:=fun T _ vals t nx K=>l2 vals (fun a b=>kM a (T ty) (opI op) (opS op) (opE op) b (fun v=>K v t nx)) (.bad 30)
noncomputable def opU (op:UnOp):V→(V→R)→R:=
 match op with
 | .not=>fun v K=>asBool v (fun b=>dI (not b) fun b=>K (.bool b)) (.bad 31)
 | .neg=>fun v K=>asInt v (fun k n=>qK k (Int.sub 0 n) fun n=>K (.int k n)) (.bad 31)
 | _=>fun _ _ => .bad 31
noncomputable def hUn (op:UnOp):H:=fun _ _ vals t nx K=>l1 vals (fun a=>opU op a fun v=>K v t nx) (.bad 31)
noncomputable def adO (src dst:TK):V→(V→R)→R:=match src,dst with
 | .int _,.int k=>fun v K=>asInt v (fun _ n=>qK k n fun n=>K (.int k n)) (.bad 33)
 | .str,.str=>fun v K=>jo v (fun l n=>K (.str l n)) (.bad 33)
 | _,_=>fun _ _ => .bad 33
noncomputable def aaA (src dst:Nat):H:=fun T _ vals t nx K=>l1 vals (fun a=>adO (T src).k (T dst).k a fun v=>K v t nx) (.bad 33)
noncomputable def bnd {R:Type} (there:Bool):List V→(Option Nat→List V→R)→R→R:=
 match there with
 | true=>fun vs K e=>lc vs (fun v vs=>asInt v (fun _ n=>inB n 9223372036854775808 (fun n=>K (some n) vs) e) e) e
 | false=>fun vs K _=>K none vs
noncomputable def orD (o:Option Nat):Nat→Nat:=match o with | none=>fun d=>d | some n=>fun _=>n
noncomputable def aiO {R:Type} (m cap:Option Nat) (l mm:Nat) (K:Option Nat→R):R:=
 Option.rec (motive:=fun _=>R) (Option.rec (motive:=fun _=>R) (K none) (fun c=>aT (Nat.sub c l) fun c=>K (some c)) cap) (fun _=>aT (Nat.sub mm l) fun c=>K (some c)) m
noncomputable def Jw (k:TK):(Nat→TE)→V→Option Nat→Option Nat→Option Nat→(V→R)→R:=match k with
 | .str=>fun _ x lo hi m K=>jo x (fun len n=>aJ (and (Nat.ble (orD lo 0) (orD hi len)) (and (Nat.ble (orD hi len) len) (match m with | none=>true | some _=>false)))
   (aT (Nat.sub (orD hi len) (orD lo 0)) fun len'=>aT (Nat.mod (Nat.shiftRight n (Nat.mul 8 (Nat.sub len (orD hi len)))) (Nat.pow 2 (Nat.mul 8 len'))) fun z=>K (.str len' z)) (.bad 34)) (.bad 36)
 | .slc e=>fun T x lo hi m K=>aJ (Abs.TE.known (T e)) (mZ x (fun id sz off len cap=>
   aJ (and (Nat.beq sz (T e).size) (and (Nat.ble (orD lo 0) (orD hi len)) (and (Nat.ble (orD hi len) (orD m (orD cap len))) (and (match m with | none=>true | some k=>Nat.ble k (orD cap len)) (match m,hi with | some _,none=>false | _,_=>true)))))
    (aT (Nat.add off (Nat.mul (orD lo 0) sz)) fun o=>aT (Nat.sub (orD hi len) (orD lo 0)) fun len'=>aiO m cap (orD lo 0) (orD m (orD cap len)) fun c=>K (.sl id sz o len' c)) (.bad 37))
   (aJ (and (Nat.beq (orD lo 0) 0) (and (Nat.beq (orD hi 0) 0) (match m,hi with | none,_=>true | some k,some _=>Nat.beq k 0 | some _,none=>false))) (qO x (fun v=>K v) (.bad 41)) (.bad 41))) (.bad 42)
 | .arr n e=>fun T x lo hi m K=>aJ (and (and (Abs.TE.known (T e)) (Nat.ble n maxL)) (Nat.blt 0 (T e).size)) (jr x (fun id off=>aJ (and (Nat.ble (orD lo 0) (orD hi n)) (and (Nat.ble (orD hi n) n) (match m with | none=>true | some _=>false)))
   (aT (Nat.add off (Nat.mul (orD lo 0) (T e).size)) fun o=>aT (Nat.sub (orD hi n) (orD lo 0)) fun len'=>aT (Nat.sub n (orD lo 0)) fun c=>K (.sl id (T e).size o len' (some c))) (.bad 44)) (.bad 46)) (.bad 46)
 | _=>fun _ _ _ _ _ _ => .bad 47
noncomputable def RU (v:V) (t:Tr Obj) (K:R):R:=
 mZ v (fun id sz off _ cap=>jy cap (fun c=>iP (id.get t) (fun _ n _ _=>aJ (Nat.ble (Nat.add off (Nat.mul c sz)) n) K (.bad 52)) (.bad 52)) K) K
noncomputable def Ux (ty:Nat) (lo hi mx:Bool):H:=fun T _ vals t nx K=>
 lc vals (fun x vs=>bnd lo vs (fun l vs=>bnd hi vs (fun h vs=>bnd mx vs (fun m _=>Jw (T ty).k T x l h m fun v=>aJ (Abs.TE.known (T ty)) (aJ (match (T ty).k with | .arr _ _=>true | _=>false) (RU v t (K v t nx)) (K v t nx)) (.bad 48)) (.bad 48)) (.bad 49)) (.bad 50)) (.bad 51)
def AV (k:TK):Option Nat:=match k with | .slc e=>some e | _=>none
noncomputable def sF {R:Type} (sz:Nat) (v:V) (t:Tr Obj) (K:Nat→List V→R) (e:R):R:=
 mZ v (fun id sz' off len _=>iP (id.get t) (fun _ _ _ cs=>aJ (Nat.beq sz sz') (rM (Nat.mul len sz) cs off (fun vs=>K len vs) e) e) e) (qO v (fun _=>K 0 []) e)
noncomputable def newRow {R:Type} (sz n:Nat) (cap:Option Nat) (cs:Tr V) (t:Tr Obj) (nx:B) (K:V→Tr Obj→B→R):R:=
 aT (Nat.mul n sz) fun h=>nM h cs t nx fun t' nx'=>K (.sl nx sz 0 n cap) t' nx'
noncomputable def isZero {R:Type} (n:Nat):R→R→R:=Nat.rec (motive:=fun _=>R→R→R) (fun x _=>x) (fun _ _ _ y=>y) n
noncomputable def lD (sz off len m:Nat) (cs:Tr V) (ys:List V) (t:Tr Obj) (nx:B) (K:KV):R:=
 rM (Nat.mul len sz) cs off (fun old=>l9 old .lf 0 fun c0=>l9 ys c0 (Nat.mul len sz) fun c1=>aT (Nat.add len m) fun n=>newRow sz n none c1 t nx K) (.bad 57)
noncomputable def qA (sz:Nat) (d:V) (m:Nat) (ys:List V) (t:Tr Obj) (nx:B) (K:KV):R:=
 mZ d (fun id sz' off len cap=>aJ (Nat.beq sz sz') (iP (id.get t) (fun ro _ hi cs=>
   Option.rec (motive:=fun _=>R)
    (aJ ro (.bad 58) (id.jv t none fun t1=>aJ (and (Nat.beq off 0) (Nat.beq hi (Nat.mul len sz)))
     (l9 ys cs (Nat.mul len sz) fun c1=>aT (Nat.add len m) fun n=>newRow sz n none c1 t1 nx K) (lD sz off len m cs ys t1 nx K)))
    (fun c=>aJ (Nat.ble (Nat.add len m) c)
     (aT (Nat.add off (Nat.mul len sz)) fun o=>oO id o ys t (fun t'=>aT (Nat.add len m) fun n=>K (.sl id sz off n (some c)) t' nx) (.bad 56))
     (aJ ro (isZero c (lD sz off len m cs ys t nx K) (.bad 58)) (lD sz off len m cs ys t nx K))) cap) (.bad 60)) (.bad 59))
  (qO d (fun _=>l9 ys .lf 0 fun cs=>newRow sz m none cs t nx K) (.bad 61))
noncomputable def lenOf (d:V):Nat:=mZ d (fun _ _ _ len _=>len) 0
noncomputable def hAppend (ty ty':Nat):H:=fun T _ vals t nx K=>
 aJ (Nat.beq ty ty') (jy (AV (T ty).k) (fun e=>aJ (and (Abs.TE.known (T e)) (and (Nat.blt 0 (T e).size) (Nat.blt 0 (T e).bytes))) (l2 vals (fun d x=>sF (T e).size x t (fun m ys=>isZero m (sF (T e).size d t (fun _ _=>K d t nx) (.bad 62))
  (aJ (and (Nat.ble (Nat.mul (Nat.add (lenOf d) m) (T e).bytes) 140737488355328) (List.all ys one)) (qA (T e).size d m ys t nx K) (.bad 63))) (.bad 55)) (.bad 62)) (.bad 62)) (.bad 62)) (.bad 62)
noncomputable def Ap {R:Type} (k:Nat):Nat→List V→(List V→R)→R:=
 Nat.rec (motive:=fun _=>Nat→List V→(List V→R)→R) (fun _ acc K=>K acc) (fun _ ih n acc K=>aT (Nat.mod n 256) fun c=>aT (Nat.shiftRight n 8) fun n'=>ih n' (.int .u8 (.ofNat c)::acc) K) k
noncomputable def Oc (ty:Nat):H:=fun T _ vals t nx K=>
 jy (AV (T ty).k) (fun e=>aJ (and (Abs.TE.known (T e)) (and (Nat.beq (T e).size 1) (Nat.blt 0 (T e).bytes))) (l2 vals (fun d x=>jo x (fun l n=>isZero l (sF 1 d t (fun _ _=>K d t nx) (.bad 62))
  (aJ (Nat.ble (Nat.mul (Nat.add (lenOf d) l) (T e).bytes) 140737488355328) (Ap l n [] fun ys=>qA (T e).size d l ys t nx K) (.bad 63))) (.bad 55)) (.bad 62)) (.bad 62)) (.bad 62)
noncomputable def aaB (ty:Nat):H:=fun T _ vals t nx K=>
 jy (AV (T ty).k) (fun e=>aJ (and (Abs.TE.known (T e)) (and (Nat.blt 0 (T e).size) (and (Nat.blt 0 (T e).bytes) (List.all (cellsOf (cV (T e).zero)) one)))) (l2 vals (fun d x=>asInt x (fun _ i=>inB i 16777216 (fun m=>isZero m (.bad 62)
  (aJ (and (Nat.ble (Nat.mul (Nat.add (lenOf d) m) (T e).bytes) 140737488355328) (Nat.ble (Nat.mul m (T e).bytes) 140737488355328)) (P5 m (cellsOf (cV (T e).zero)) fun ys=>qA (T e).size d m ys t nx K) (.bad 63))) (.bad 62)) (.bad 55)) (.bad 62)) (.bad 62)) (.bad 62)
noncomputable def aiY (k:TK):Nat→H:=match k with
 | .str=>Oc
 | .int _=>aaB
 | _=>fun _ _ _ _ _ _ _ => .bad 62
noncomputable def IY (ty ty':Nat):H:=fun T call vals t nx K=>aJ (Nat.beq ty ty') (hAppend ty ty' T call vals t nx K) (aiY (T ty').k ty T call vals t nx K)
noncomputable def ahv (ty:Nat):H:=fun T _ vals t nx K=>l1 vals (fun v=>jy (AV (T ty).k) (fun _=>mZ v (fun _ _ _ _ c=>jy c (fun c=>K (.int .i64 (.ofNat c)) t nx) (.bad 78)) (qO v (fun _=>K (.int .i64 (.ofNat 0)) t nx) (.bad 78))) (.bad 78)) (.bad 78)
noncomputable def ad7 {R:Type} (sz n:Nat) (v:V) (t:Tr Obj) (K:List V→R) (e:R):R:=
 mZ v (fun id sz' off _ _=>iP (id.get t) (fun _ _ _ cs=>aJ (Nat.beq sz sz') (rM (Nat.mul n sz) cs off K e) e) e) (qO v (fun _=>K []) e)
noncomputable def aaz (ty ty':Nat):H:=fun T _ vals t nx K=>
 aJ (Nat.beq ty ty') (jy (AV (T ty).k) (fun e=>aJ (Abs.TE.known (T e)) (l2 vals (fun d x=>mZ d (fun id sz off len _=>aT (Nat.min (lenOf x) len) fun n=>ad7 (T e).size n x t (fun ys=>
   aJ (Nat.beq sz (T e).size) (oO id off ys t (fun t'=>K (.int .i64 (.ofNat n)) t' nx) (.bad 63)) (.bad 64)) (.bad 65))
  (ad7 (T e).size 0 x t (fun _=>qO d (fun _=>K (.int .i64 (.ofNat 0)) t nx) (.bad 65)) (.bad 65))) (.bad 65)) (.bad 65)) (.bad 65)) (.bad 65)
noncomputable def UC (ty:Nat):H:=fun T _ vals t nx K=>
 jy (AV (T ty).k) (fun e=>aJ (and (Abs.TE.known (T e)) (and (Nat.blt 0 (T e).size) (List.all (cellsOf (cV (T e).zero)) one))) (l1 vals (fun d=>mZ d (fun id sz off len _=>aJ (Nat.beq sz (T e).size) (P5 len (cellsOf (cV (T e).zero)) fun ys=>oO id off ys t (fun t'=>K (.tup []) t' nx) (.bad 64)) (.bad 64))
  (qO d (fun _=>K (.tup []) t nx) (.bad 65))) (.bad 65)) (.bad 65)) (.bad 65)
noncomputable def zQ (ty:Nat):H:=fun T _ vals t nx K=>
 jy (AV (T ty).k) (fun e=>aJ (and (Abs.TE.known (T e)) (Nat.blt 0 (T e).size)) (l2 vals (fun l c=>asInt l (fun _ l=>asInt c (fun _ c=>inB c 16777216 (fun c=>inB l (Nat.succ c) (fun l=>aJ (and (Nat.ble (Nat.mul c (T e).bytes) 16777216) (List.all (cellsOf (cV (T e).zero)) one)) (P5 c (cellsOf (cV (T e).zero)) fun vs=>l9 vs .lf 0 fun cs=>aT (Nat.mul c (T e).size) fun h=>
  nM h cs t nx fun t' nx'=>K (.sl nx (T e).size 0 l (some c)) t' nx') (.bad 66)) (.bad 66)) (.bad 66)) (.bad 67)) (.bad 67)) (.bad 67)) (.bad 67)) (.bad 67)
noncomputable def tu (ps:List (Nat×Operand)):(Nat→Option (Nat×Nat))→List V→Tr V→(Tr V→R)→R:=
 List.rec (motive:=fun _=>(Nat→Option (Nat×Nat))→List V→Tr V→(Tr V→R)→R) (fun _ vs cs K=>match vs with | []=>K cs | _ => .bad 68)
  (fun p _ ih place vs cs K=>jy (place p.1) (fun o=>lc vs (fun v vs=>aJ (and (Nat.beq (cellsOf v).length o.2) (List.all (cellsOf v) one)) (l9 (cellsOf v) cs o.1 fun cs'=>ih place vs cs' K) (.bad 68)) (.bad 68)) (.bad 68)) ps
noncomputable def yI (all:Bool) (m:Nat) (te:TE) (K:Tr V→R):R:=
 aJ all (K .lf) (aJ (List.all (cellsOf (cV te.zero)) one) (P5 m (cellsOf (cV te.zero)) fun zs=>l9 zs .lf 0 K) (.bad 69))
noncomputable def oU (ty len:Nat) (ps:List (Nat×Operand)):H:=fun T _ vals t nx K=>
 jy (AV (T ty).k) (fun e=>aJ (and (Abs.TE.known (T e)) (and (Nat.blt 0 (T e).size) (Nat.ble (Nat.mul len (T e).size) 16777216))) (isZero len (match ps with | []=>K .gq t nx | _ => .bad 69)
  (yI (Nat.beq ps.length len) len (T e) fun cs=>tu ps (fun i=>aJ (Nat.blt i len) (some (Nat.mul i (T e).size,(T e).size)) none) vals cs fun cs=>aT (Nat.mul len (T e).size) fun h=>
   nM h cs t nx fun t' nx'=>K (.sl nx (T e).size 0 len (some len)) t' nx')) (.bad 69)) (.bad 69)
noncomputable def placeOf (fs:List (Nat×Nat×Bool)) (i:Nat):Option (Nat×Nat):=match fs[i]? with | some (o,z,_)=>some (o,z) | none=>none
def Og (n:Nat) (f:Nat×Nat×Bool):Bool:=Nat.ble (Nat.add f.1 f.2.1) n
noncomputable def aiP (k:TK):(Nat→TE)→Nat→Nat→((Nat→Option (Nat×Nat))→Bool→R)→R→R:=match k with
 | .agg fs=>fun _ n m K e=>aJ (List.all fs (Og n)) (K (placeOf fs) (Nat.beq m fs.length)) e
 | .arr n' e'=>fun T n m K e=>aJ (and (Abs.TE.known (T e')) (Nat.beq (Nat.mul n' (T e').size) n)) (K (fun i=>aJ (Nat.blt i n') (some (Nat.mul i (T e').size,(T e').size)) none) (Nat.beq m n')) e
 | _=>fun _ _ _ _ e=>e
noncomputable def UF (ty:Nat) (ps:List (Nat×Operand)):H:=fun T _ vals t nx K=>
 aiP (T ty).k T (T ty).size ps.length (fun place all=>yI all 1 (T ty) fun cs=>tu ps place vals cs fun cs=>rM (T ty).size cs 0 (fun vs=>K (.agg vs) t nx) (.bad 70)) (.bad 70)
noncomputable def bW (te:TE) (k:V):Bool:=and (and (Abs.TE.known te) (not te.ks.isEmpty)) (and (fits te.ks (cellsOf k)) (qI (asAgg k (fun _=>true) false) te.k.isAgg))
noncomputable def eqV (a b:V):Bool:=YB (cellsOf a) (cellsOf b)
noncomputable def DF (es:List (V×V)):V→Option V:=
 List.rec (motive:=fun _=>V→Option V) (fun _=>none) (fun x _ ih k=>aJ (eqV k x.1) (some x.2) (ih k)) es
noncomputable def JY {R:Type} (es:List (V×V)):V→V→(List (V×V)→R)→R:=
 List.rec (motive:=fun _=>V→V→(List (V×V)→R)→R) (fun k v K=>K [(k,v)]) (fun x es ih k v K=>aJ (eqV k x.1) (K ((k,v)::es)) (ih k v (fun es=>K (x::es)))) es
noncomputable def KX {R:Type} (es:List (V×V)):V→(List (V×V)→R)→R:=
 List.rec (motive:=fun _=>V→(List (V×V)→R)→R) (fun _ K=>K []) (fun x es ih k K=>aJ (eqV k x.1) (K es) (ih k (fun es=>K (x::es)))) es
noncomputable def TQ {R:Type} (k:TK):(Nat→Nat→R)→R→R:=match k with | .map kt e=>fun K _=>K kt e | _=>fun _ e=>e
noncomputable def TT (ok:Bool):Option V→V→(V→R)→R:=match ok with
 | true=>fun r z K=>jy r (fun v=>K (.tup [v,.bool true])) (K (.tup [z,.bool false]))
 | false=>fun r z K=>jy r (fun v=>K v) (K z)
noncomputable def NV (ty:Nat) (ok:Bool):H:=fun T _ vals t nx K=>
 TQ (T ty).k (fun kt e=>l2 vals (fun m k=>aJ (and (bW (T kt) k) (Abs.TE.known (T e))) (Az m (fun id=>QY (id.get t) (fun kt' es=>aJ (Nat.beq kt kt') (TT ok (DF es k) (cV (T e).zero) fun v=>K v t nx) (.bad 71)) (.bad 72))
  (KA m (TT ok none (cV (T e).zero) fun v=>K v t nx) (.bad 73))) (.bad 74)) (.bad 73)) (.bad 73)
noncomputable def rH (ty:Nat):H:=fun T _ vals t nx K=>
 TQ (T ty).k (fun kt _=>l3 vals (fun m k v=>aJ (bW (T kt) k) (Az m (fun id=>QY (id.get t) (fun kt' es=>aJ (Nat.beq kt kt') (JY es k v fun es=>id.jv t (some (.map kt' es)) fun t'=>K .any t' nx) (.bad 74)) (.bad 75)) (.bad 76)) (.bad 76)) (.bad 76)) (.bad 76)
noncomputable def NZ (ty:Nat):H:=fun T _ vals t nx K=>
 TQ (T ty).k (fun kt _=>l2 vals (fun m k=>aJ (bW (T kt) k) (Az m (fun id=>QY (id.get t) (fun kt' es=>aJ (Nat.beq kt kt') (KX es k fun es=>id.jv t (some (.map kt' es)) fun t'=>K .any t' nx) (.bad 74)) (.bad 75)) (.bad 76)) (.bad 76)) (.bad 76)) (.bad 76)
noncomputable def zS (ty:Nat):H:=fun T _ _ t nx K=>TQ (T ty).k (fun kt _=>nx.jv t (some (.map kt [])) fun t'=>nx.XZ fun nx'=>K (.map nx) t' nx') (.bad 77)
noncomputable def Ua (k:TK):V→Tr Obj→(Nat→R)→R:=match k with
 | .str=>fun v _ K=>jo v (fun l _=>K l) (.bad 77)
 | .slc _=>fun v _ K=>mZ v (fun _ _ _ l _=>K l) (qO v (fun _=>K 0) (.bad 77))
 | .map _ _=>fun v t K=>Az v (fun id=>QY (id.get t) (fun _ es=>aT es.length K) (.bad 77)) (KA v (K 0) (.bad 77))
 | .arr n _=>fun _ _ K=>K n
 | _=>fun _ _ _ => .bad 77
noncomputable def hLen (ty:Nat):H:=fun T _ vals t nx K=>l1 vals (fun v=>Ua (T ty).k v t fun n=>K (.int .i64 (.ofNat n)) t nx) (.bad 78)
noncomputable def aeX (mx:Bool):H:=fun _ _ vals t nx K=>
 l2 vals (fun a b=>asInt a (fun k a=>asInt b (fun k' b=>jl k k' (aJ (match mx with | true=>ltI a b | false=>ltI b a) (K (.int k b) t nx) (K (.int k a) t nx))) (.bad 81)) (.bad 81)) (.bad 81)
noncomputable def NU:H:=fun _ _ vals t nx K=>l1 vals (fun v=>K v t nx) (.bad 100)
noncomputable def aaj:H:=fun _ _ vals t nx K=>l3 vals (fun c x y=>asBool c (fun b=>aJ b (K x t nx) (K y t nx)) (.bad 101)) (.bad 101)
noncomputable def KQ (ty:Nat):H:=fun T _ _ t nx K=>aJ (Abs.TE.known (T ty)) (mkVar (cellsOf (cV (T ty).zero)) t nx K) (.bad 102)
noncomputable def ahw:H:=fun _ _ vals t nx K=>l1 vals (fun v=>mkVar (cellsOf v) t nx K) (.bad 102)
noncomputable def Dt:H:=fun _ _ vals t nx K=>l1 vals (fun v=>jr v (fun id off=>K (.ptr id off) t nx) (La v (fun f a b=>K (.fn f a b) t nx) (.bad 103))) (.bad 103)
noncomputable def vV (f n:Nat):H:=fun _ _ vals t nx K=>vX (vals.take n) fun a=>vX (vals.drop n) fun b=>K (.fn f a b) t nx
noncomputable def IU (i:Nat):H:=fun _ _ vals t nx K=>l1 vals (fun v=>Au v (fun vs=>jy vs[i]? (fun v=>K v t nx) (.bad 104)) (.bad 105)) (.bad 105)
noncomputable def Uu (g:Nat) (ng:Nat):H:=fun _ _ _ t nx K=>aJ (Nat.blt g ng) (iP ((bOf g).get t) (fun _ _ _ _=>K (.bool false) t nx) (.bad 106)) (.bad 106)
noncomputable def frK {α:Type} (r:FR):(Nat→α)→(V→Tr Obj→B→α)→α:=
 FR.rec (motive:=fun _=>(Nat→α)→(V→Tr Obj→B→α)→α) (fun n a _=>a n) (fun v t nx _ b=>b v t nx) r
noncomputable def UE:H:=fun _ call vals t nx K=>lc vals (fun f vs=>La f (fun f first caps=>frK (call f (first++(vs++caps)) t nx) .bad K) (.bad 108)) (.bad 108)
noncomputable def IW (n:Nat):H:=fun _ _ _ _ _ _ => .bad n
noncomputable def bi1 (f:Nat→H):List Operand→List Nat→H
 | [_],[ty]=>f ty
 | _,_=>IW 110
noncomputable def bi2 (f:Nat→Nat→H):List Operand→List Nat→H
 | [_,_],[ty,ty']=>f ty ty'
 | _,_=>IW 110
noncomputable def aiR (f:H):List Operand→List Nat→H
 | [_,_],_=>f
 | _,_=>IW 110
noncomputable def opB (b:Builtin):List Operand→List Nat→H:=match b with
 | .len=>bi1 hLen
 | .append=>bi2 IY
 | .cap=>bi1 ahv
 | .copy=>bi2 aaz
 | .clear=>bi1 UC
 | .delete=>bi2 fun ty _=>NZ ty
 | .max=>aiR (aeX true)
 | .min=>aiR (aeX false)
 | _=>fun _ _=>IW 110
noncomputable def opH (op:Op):Nat→H:=
 match op with
 | .move _=>fun _=>NU
 | .assign _=>fun _=>NU
 | .pick _ _ _=>fun _=>aaj
 | .alloc ty=>fun _=>KQ ty
 | .box _ _=>fun _=>ahw
 | .build ty ⟨ps⟩=>fun _=>UF ty ps
 | .buildSlice ty len ⟨ps⟩=>fun _=>oU ty len ps
 | .load ty _=>fun _=>aak ty
 | .store ty _ _=>fun _=>zO ty
 | .nilCheck _=>fun _=>Dt
 | .binOp op ty _ _ _=>fun _=>ahx op ty
 | .unOp op _ _=>fun _=>hUn op
 | .convert src dst _=>fun _=>aaA src dst
 | .makeFunc (.func f) ⟨first⟩ _=>fun _=>vV f first.length
 | .makeSlice ty _ _=>fun _=>zQ ty
 | .fieldAddr ty _ f=>fun _=>zV ty f
 | .field ty _ f=>fun _=>Uz ty f
 | .indexAddr ty _ _=>fun _=>zU ty
 | .index ty _ _=>fun _=>Uy ty
 | .extract _ i=>fun _=>IU i
 | .slice ty _ lo hi mx=>fun _=>Ux ty lo.isSome hi.isSome mx.isSome
 | .makeMap ty none=>fun _=>zS ty
 | .lookup ty _ _ ok=>fun _=>NV ty ok
 | .mapUpdate ty _ _ _=>fun _=>rH ty
 | .insert ty _ _ _=>fun _=>rH ty
 | .waits g=>fun ng=>Uu g ng
 | .call c=>match c.callee with
   | .value _=>fun _=>UE
   | .builtin b=>fun _=>opB b c.args.toList c.argTypes.toList
   | _=>fun _=>IW 110
 | _=>fun _=>IW 111
def bJ:Op→List Operand
 | .alloc _ | .ready _ | .waits _=>[]
 | .move x | .assign x | .box _ x | .load _ x | .nilCheck x | .unOp _ _ x | .convert _ _ x | .sliceToArrayPointer _ x | .makeInterface _ x
 | .makeChan _ x | .fieldAddr _ x _ | .field _ x _ | .range _ x | .next x _ | .entry x | .typeAssert x _ _ _ | .extract x _ | .panic x | .recv _ x _=>[x]
 | .pick c a b=>[c,a,b]
 | .build _ ⟨ps⟩ | .buildSlice _ _ ⟨ps⟩=>ps.map (·.2)
 | .store _ a v | .binOp _ _ a v _ | .makeSlice _ a v | .indexAddr _ a v | .index _ a v | .lookup _ a v _ | .mapEntry _ a v | .send a v=>[a,v]
 | .makeFunc _ ⟨first⟩ ⟨captured⟩=>first++captured
 | .makeMap _ r=>r.toList
 | .slice _ x l h m=>x::(l.toList++(h.toList++m.toList))
 | .mapUpdate _ m k v | .entryStore _ m k v | .insert _ m k v=>[m,k,v]
 | .call c=>match c.callee,c.args with
   | .value f,⟨as⟩=>f::as
   | .invoke r _,⟨as⟩=>r::as
   | .builtin _,⟨as⟩=>as
 | op=>op.operands.toList
def isQ (op:Op):Bool:=match op with
 | .move _ | .assign _ | .pick _ _ _ | .build _ _ | .load _ _ | .nilCheck _ | .binOp _ _ _ _ _ | .unOp _ _ _ | .convert _ _ _ | .makeFunc _ _ _ | .fieldAddr _ _ _ | .field _ _ _ | .indexAddr _ _ _ | .index _ _ _ | .extract _ _
 | .slice _ _ _ _ _ | .lookup _ _ _ _ | .waits _=>true
 | .call c=>match c.callee with
   | .builtin .len | .builtin .cap | .builtin .max | .builtin .min=>true
   | _=>false
 | _=>false
noncomputable def tq {R:Type} (dst:Option Tmp):Tr V→V→(Tr V→R)→R:=match dst with
 | none=>fun env _ K=>K env
 | some d=>fun env v K=>(bOf d).jv env (some v) K
noncomputable def lK {R α:Type} (j:Nat):List α→(α→R)→R→R:=
 Nat.rec (motive:=fun _=>List α→(α→R)→R→R) (fun l K e=>match l with | x::_=>K x | []=>e) (fun _ ih l K e=>match l with | _::l=>ih l K e | []=>e) j
abbrev KE:=Tr V→Tr Obj→B→R
noncomputable def stepG (g:Option (Nat×Bool)):List Oper→Option Tmp→H→List Operand→(Nat→TE)→Cl→Nat→Tr V→Tr Obj→B→KE→R:=match g with
 | none=>fun _ dst h xs T call ng env t nx k=>vK xs ng env fun vals=>h T call vals t nx fun v t nx=>tq dst env v fun env=>k env t nx
 | some (j,want)=>fun all dst h xs T call ng env t nx k=>lK j all (fun o=>jy o.dst (fun d=>opK (.tmp d) ng env fun v=>
   asBool v (fun b=>aJ (qI b want) (vK xs ng env fun vals=>h T call vals t nx fun v t nx=>tq dst env v fun env=>k env t nx) (tq dst env .undef fun env=>k env t nx))
    (qj v (tq dst env .undef fun env=>k env t nx) (.bad 112))) (.bad 113)) (.bad 113)
noncomputable def JB (os:List Oper):(all:List Oper)→(Nat→TE)→Cl→Nat→Tr V→Tr Obj→B→KE→R:=
 List.rec (motive:=fun _=>List Oper→(Nat→TE)→Cl→Nat→Tr V→Tr Obj→B→KE→R) (fun _ _ _ _ env t nx K=>K env t nx)
  (fun o _ ih all T call ng env t nx K=>stepG o.guard all o.dst (opH o.op ng) (bJ o.op) T call ng env t nx fun env t nx=>ih all T call ng env t nx K) os
inductive DI where
 | q (k back:Nat) | z (k:Nat) | c (k:Nat) | f (m n a b:Nat)
def DI.k:DI→Nat | .q k _=>k | .z k=>k | .c k=>k | .f _ _ _ _=>0
def DI.cl:DI→Nat | .q _ _=>0 | .z _=>1 | .c _=>2 | .f _ _ _ _=>0
def DI.back:DI→Nat | .q _ b=>b | _=>0
noncomputable def U8:V→V→Bool
 | .bool a,.bool b=>qI a b
 | .int k a,.int k' b=>and (Nat.beq (ikN k) (ikN k')) (eqI a b)
 | .str l n,.str l' n'=>and (Nat.beq l l') (Nat.beq n n')
 | .fC,.fC=>true
 | .ptr i o,.ptr i' o'=>and (Nat.beq (EW i) (EW i')) (Nat.beq o o')
 | .aj,.aj=>true
 | .gq,.gq=>true
 | .sl i sz o l c,.sl i' sz' o' l' c'=>and (and (Nat.beq (EW i) (EW i')) (Nat.beq sz sz')) (and (Nat.beq o o') (and (Nat.beq l l') (eqO c c')))
 | .gU,.gU=>true
 | .map i,.map i'=>Nat.beq (EW i) (EW i')
 | .gZ,.gZ=>true
 | .fn f [] [],.fn f' [] []=>Nat.beq f f'
 | .iy,.iy=>true
 | .undef,.undef=>true
 | _,_=>false
noncomputable def Bd (a:List V):List V→Bool:=
 List.rec (motive:=fun _=>List V→Bool) (fun b=>match b with | []=>true | _=>false) (fun x _ ih b=>match b with | y::ys=>and (U8 x y) (ih ys) | []=>false) a
noncomputable def eqW (a b:V):Bool:=asAgg a (fun xs=>asAgg b (fun ys=>Bd xs ys) false) (Au a (fun xs=>Au b (fun ys=>Bd xs ys) false) (La a (fun f xs ys=>La b (fun f' xs' ys'=>and (Nat.beq f f') (and (Bd xs xs') (Bd ys ys'))) false) (U8 a b)))
noncomputable def adT (n:Nat):List (Tr Obj×B)→(Tr Obj→B→R→R)→R→R:=
 Nat.rec (motive:=fun _=>List (Tr Obj×B)→(Tr Obj→B→R→R)→R→R) (fun _ _ e=>e) (fun _ ih hs f e=>match hs with | h::hs=>f h.1 h.2 (ih hs f e) | [] => .bad 130) n
noncomputable def hdK (hs:List (Tr Obj×B)):(Tr Obj→B→List (Tr Obj×B)→R)→R:=match hs with | h::hs=>fun K=>K h.1 h.2 hs | []=>fun _ => .bad 130
noncomputable def wZ (back:Nat) (hs:List (Tr Obj×B)) (h:H):H:=fun T call vals t nx K=>
 hdK hs fun t0 nx0 hs=>h T call vals t0 nx0 fun v _ _=>adT back hs (fun t' nx' e=>h T call vals t' nx' fun v' _ _=>aJ (eqW v v') e (.bad 131)) (K v t nx)
noncomputable def xH (its:List DI):(all:List Oper)→(Nat→TE)→Cl→Nat→Tr V→Tr Obj→B→List (Tr Obj×B)→KE→R:=
 List.rec (motive:=fun _=>List Oper→(Nat→TE)→Cl→Nat→Tr V→Tr Obj→B→List (Tr Obj×B)→KE→R) (fun _ _ _ _ env t nx _ K=>K env t nx)
  (fun it _ ih all T call ng env t nx hs K=>match it with
   | .q k back=>lK k all (fun o=>stepG o.guard all o.dst (wZ back hs (opH o.op ng)) (bJ o.op) T call ng env t nx fun env t nx=>ih all T call ng env t nx hs K) (.bad 132)
   | .z k=>lK k all (fun o=>stepG o.guard all o.dst (opH o.op ng) (bJ o.op) T call ng env t nx fun env t nx=>ih all T call ng env t nx hs K) (.bad 132)
   | .c k=>lK k all (fun o=>stepG o.guard all o.dst (opH o.op ng) (bJ o.op) T call ng env t nx fun env t nx=>ih all T call ng env t nx ((t,nx)::hs) K) (.bad 132)
   | .f _ _ _ _ => .bad 133) its
noncomputable def G5 (its:List DI):(all:List Oper)→(Nat→TE)→Cl→Nat→Tr V→Tr Obj→B→List (Tr Obj×B)→(Tr V→Tr Obj→B→List (Tr Obj×B)→R)→R:=
 List.rec (motive:=fun _=>List Oper→(Nat→TE)→Cl→Nat→Tr V→Tr Obj→B→List (Tr Obj×B)→(Tr V→Tr Obj→B→List (Tr Obj×B)→R)→R) (fun _ _ _ _ env t nx hs K=>K env t nx hs)
  (fun it _ ih all T call ng env t nx hs K=>match it with
   | .q k back=>lK k all (fun o=>stepG o.guard all o.dst (wZ back hs (opH o.op ng)) (bJ o.op) T call ng env t nx fun env t nx=>ih all T call ng env t nx hs K) (.bad 132)
   | .z k=>lK k all (fun o=>stepG o.guard all o.dst (opH o.op ng) (bJ o.op) T call ng env t nx fun env t nx=>ih all T call ng env t nx hs K) (.bad 132)
   | .c k=>lK k all (fun o=>stepG o.guard all o.dst (opH o.op ng) (bJ o.op) T call ng env t nx fun env t nx=>ih all T call ng env t nx ((t,nx)::hs) K) (.bad 132)
   | .f _ _ _ _ => .bad 133) its
noncomputable def afp:Option V→Option V→Bool
 | some a,some b=>eqW a b
 | none,none=>true
 | _,_=>false
noncomputable def agree (all:List Oper) (l:List DI):Tr V→Tr V→Bool:=
 List.rec (motive:=fun _=>Tr V→Tr V→Bool) (fun _ _=>true) (fun it _ ih e1 e2=>and (match all[it.k]? with | some o=>(match o.dst with | some d=>afp ((bOf d).get e1) ((bOf d).get e2) | none=>true) | none=>false) (ih e1 e2)) l
noncomputable def Tj (all:List Oper) (k ng:Nat) (env:Tr V):Option B:=match all[k]? with
 | some o=>(match o.op with | .store _ x _=>opK x ng env fun v=>jr v (fun id _=>some id) none | _=>none)
 | none=>none
noncomputable def apartB:Option B→Option B→Bool
 | some i,some j=>not (Nat.beq i.n j.n)
 | _,_=>false
noncomputable def Xo (m n a b:Nat) (rest:List DI) (all:List Oper) (T:Nat→TE) (call:Cl) (ng:Nat) (env:Tr V) (t:Tr Obj) (nx:B) (K:KE):R:=
 G5 (rest.take m) all T call ng env t nx [(t,nx)] fun env0 t0 nx0 hs0=>
 G5 ((rest.drop m).take n) all T call ng env0 t0 nx0 hs0 fun env1 t1 nx1 _=>
 G5 ((rest.drop m).drop n) all T call ng env0 t0 nx0 hs0 fun env2 _ _ _=>
  aJ (and (agree all ((rest.drop m).take n) env1 env2) (and (agree all ((rest.drop m).drop n) env1 env2) (apartB (Tj all a ng env1) (Tj all b ng env1)))) (K env1 t1 nx1) (.bad 140)
noncomputable def aeb (its:List DI) (all:List Oper) (T:Nat→TE) (call:Cl) (ng:Nat) (env:Tr V) (t:Tr Obj) (nx:B) (K:KE):R:=match its with
 | .f m n a b::rest=>Xo m n a b rest all T call ng env t nx K
 | its=>xH its all T call ng env t nx [(t,nx)] K
structure FE where
 pre:List V→Tr Obj→B→FR→FR
 body:Code
 res:List ResultVar
 nt:Nat
 ann:Nat→List DI
noncomputable def TV (k:TK):Nat→Tr V→Nat→(V→FR)→FR:=match k with
 | .none=>fun _ _ _ _ => .bad 1
 | .agg _=>fun n cs off K=>rM n cs off (fun vs=>K (.agg vs)) (.bad 1)
 | .arr _ _=>fun n cs off K=>rM n cs off (fun vs=>K (.agg vs)) (.bad 1)
 | _=>fun _ cs off K=>Option.rec (motive:=fun _=>FR) (.bad 2) (fun v=>K v) ((bOf off).get cs)
noncomputable def ajS (r:ResultVar):(Nat→TE)→Nat→Tr V→Tr Obj→(V→FR)→FR:=
 match r with
 | .tmp x=>fun _ ng env _ K=>opK (.tmp x) ng env K
 | .cell x ty=>fun T ng env t K=>opK (.tmp x) ng env fun v=>jr v (fun id off=>iP (id.get t) (fun _ _ _ cs=>TV (T ty).k (T ty).size cs off K) (.bad 116)) (.bad 117)
noncomputable def LK (rs:List ResultVar):(Nat→TE)→Nat→Tr V→Tr Obj→(List V→FR)→FR:=
 List.rec (motive:=fun _=>(Nat→TE)→Nat→Tr V→Tr Obj→(List V→FR)→FR) (fun _ _ _ _ K=>K []) (fun r _ ih T ng env t K=>ajS r T ng env t fun v=>ih T ng env t fun vs=>K (v::vs)) rs
noncomputable def resV (rs:List ResultVar) (T:Nat→TE) (ng:Nat) (env:Tr V) (t:Tr Obj) (K:V→FR):FR:=
 LK rs T ng env t fun vs=>l1 vs K (K (.tup vs))
noncomputable def aix (x:X):List ResultVar→(Nat→TE)→Nat→Tr V→Tr Obj→B→FR:=match x with
 | .nrm=>fun rs T ng env t nx=>resV rs T ng env t fun v => .ret v t nx
 | .ret=>fun rs T ng env t nx=>resV rs T ng env t fun v => .ret v t nx
 | .ex _=>fun _ _ _ _ _ _ => .bad 118
end Go.Sim
