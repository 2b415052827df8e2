/- The abstract values (pure data D, machine values V), what they say of a world, and the states of the calculus. -/
import Derived.Orders
import Derived.Test.YtpmapognbdiahaaGreatDoorGlOne
import Derived.Laws.AppendOwn
import Derived.Below
import Derived.Laws.Cells
import Derived.Laws.Tables
import Derived.Laws.MakeOwn
import Derived.ChangeKeysEq
import Derived.Laws.Slices
import Derived.Laws.Strings
import Derived.Laws.StructEq
set_option linter.all false
namespace Go.Abs
open Go Go.RowKit
inductive RdD (ok:Nat→Prop) (w:World):Value→D→Prop
 | bool (b:Bool):RdD ok w (.bool b) (.bool b)
 | int (k:IntKind) (n:Int):RdD ok w (.int k n) (.int k n)
 | str (s:List UInt8):s.length≤maxLen→RdD ok w (.string ⟨s.toArray⟩) (.str s)
 | agg (vs:Array Value) (cs:List D):vs.size=cs.length→(∀ (i:Nat) v c,vs[i]?=some v→cs[i]?=some c→RdD ok w v c) →
   (∀ (i:Nat) v c,vs[i]?=some v→cs[i]?=some c→Value.oneCell' v=true∧D.one c=true)→RdD ok w (.agg vs) (.agg cs)
 | mO (a:Option Addr):RdD ok w (.slice a 0 0) (.list [])
 | lst (a:Addr) (cap sz:Nat) (xs:List D) (us:Nat→Nat→Value):ok a.block→a.spot=none→xs.length≤cap→cap≤maxLen→0<sz →
   (∀ (i:Nat) x,xs[i]?=some x→(D.cells x).length=sz) →
   (∀ (i:Nat) x (j:Nat) c,xs[i]?=some x→(D.cells x)[j]?=some c→w.cell? ⟨a.block,a.off+(i*sz+j),none⟩=some (us i j)∧Value.oneCell' (us i j)=true∧D.one c=true) →
   (∀ (i:Nat) x (j:Nat) c,xs[i]?=some x→(D.cells x)[j]?=some c→RdD ok w (us i j) c) →
   RdD ok w (.slice (some a) xs.length cap) (.list xs)
 | ref (b o off:Nat) (cs:List D) (us:Nat→Value):ok b →
   (∀ (j:Nat) c,cs[j]?=some c→w.cell? ⟨b,o+j,none⟩=some (us j)∧(us j).oneCell'=true∧D.one c=true) →
   (∀ (j:Nat) c,cs[j]?=some c→RdD ok w (us j) c) →
   RdD ok w (.pointer (some ⟨b,o+off,none⟩)) (.ref cs off)
 | fC:RdD ok w (.pointer none) .fC
 | XK:RdD ok w (.map none) (.map [])
 | map (r clock:Nat) (ents:Array MapEntry) (es:List (D×D)):ok r→w.heap[r]?=some (.map ents clock)→ents.size=es.length →
   (∀ (i:Nat) (m:MapEntry) (e:D×D),ents[i]?=some m→es[i]?=some e→RdD ok w m.key e.1) →
   (∀ (i:Nat) (m:MapEntry) (e:D×D),ents[i]?=some m→es[i]?=some e→RdD ok w m.val e.2) →
   RdD ok w (.map (some r)) (.map es)
 | fn (f:FuncId) (vs:Array Value) (cs:List D):vs.size=cs.length→(∀ (i:Nat) v c,vs[i]?=some v→cs[i]?=some c→RdD ok w v c)→RdD ok w (.func (.func f) #[] vs) (.fn f cs)
def Keeps (ok:Nat→Prop) (w w':World):Prop:=∀ b,ok b→w'.heap[b]?=w.heap[b]?
theorem cell_of_heap {w w':World} {a:Addr} (h:w'.heap[a.block]?=w.heap[a.block]?):w'.cell? a=w.cell? a:=World.cell?_of_block h
theorem RdD.mono {ok ok':Nat→Prop} {w w':World} (hk:Keeps ok w w') (ho:∀ b,ok b→ok' b) {v:Value} {d:D} (h:RdD ok w v d):RdD ok' w' v d:=by
 induction h with
 | bool b=>exact .bool b
 | int k n=>exact .int k n
 | str s hs=>exact .str s hs
 | agg vs cs hl h1 h2 ih=>exact .agg vs cs hl ih h2
 | mO a=>exact .mO a
 | lst a cap sz xs us h1 h2 h3 h4 h5 h6 h7 h8 ih=>
   exact .lst a cap sz xs us (ho _ h1) h2 h3 h4 h5 h6 (fun i x j c hx hc=>by rw [cell_of_heap (w:=w) (a:=⟨a.block,a.off+(i*sz+j),none⟩) (hk a.block h1)];exact h7 i x j c hx hc) ih
 | ref b o off cs us h1 h2 h3 ih=>exact .ref b o off cs us (ho _ h1) (fun j c hc=>by rw [cell_of_heap (w:=w) (a:=⟨b,o+j,none⟩) (hk b h1)];exact h2 j c hc) ih
 | fC=>exact .fC
 | XK=>exact .XK
 | map r clock ents es h1 h2 h3 h4 h5 ih1 ih2=>exact .map r clock ents es (ho _ h1) ((hk r h1).trans h2) h3 ih1 ih2
 | fn f vs cs hl h ih=>exact .fn f vs cs hl ih
inductive V where
 | d (x:D)
 | aj
 | emp
 | ptr (id off:Nat)
 | sl (id sz off len:Nat)
 | ael (id sz i off:Nat)
 | map (id:Nat)
 | rsl (id len:Nat)
 | ani (id i:Nat)
 | func (fn:Fn) (first captured:List V)
 | agg (cs:List V)
 | tuple (vs:List V)
 | undef
 | any
 deriving Inhabited
abbrev Key:=Nat×Nat
inductive Res where
 | cell (v:V)
 | arr (sz:Nat) (xs:List D)
 | map (es:List (D×D))
 | rows (sz:Nat) (rs:List (List D)) (out:Option (Nat×Nat))
 deriving Inhabited
structure S where
 env:Nat→V
 hp:Key→Option Res
 used:Nat→Prop
structure Ctx where
 w0:World
 ok0:Nat→Prop
 wr:Nat→Nat→Prop
 nt:Nat
 β0:Nat→Value
 u0:List Nat
inductive TK where
 | int (k:IntKind) | bool | str | ptr | slc (e:Nat) | agg (fs:List (Nat×Nat×Bool)) | arr (n e:Nat) | map (k e:Nat) | fn | ifc | none
 deriving Inhabited
inductive SK where
 | b | i (k:IntKind) | s
 deriving Inhabited,DecidableEq
structure TE where
 k:TK
 size:Nat
 bytes:Nat
 zero:Value
 ks:List SK:=[]
 deriving Inhabited
def Jy (P:Program) (rec:Nat→Option (List SK)):List Field→Nat→Option (List SK)
 | [],_=>some []
 | f::fs,off=>if f.name = "_" then none else if f.offset=off then match rec f.type with
    | some ks=>if P.cellsOf f.type=ks.length then (Jy P rec fs (off+ks.length)).map (ks++·) else none
    | none=>none
  else none
def rC (P:Program):Nat→Nat→Option (List SK)
 | 0,_=>none
 | m+1,t=>match P.underlying t with
   | some .bool=>some [.b]
   | some (.int k)=>some [.i k]
   | some .string=>some [.s]
   | some (.struct fs)=>if P.stoodInHeld t=true then none else Jy P (rC P m) fs.toList 0
   | _=>none
def ksOf (P:Program) (t:Nat):List SK:=if P.eqGuardType P.depth t=true then [] else (rC P 6 t).getD []
def kP (P:Program) (t:Nat):Bool:=match P.underlying t with | some (.struct _) | some (.array _ _)=>true | _=>false
def kOf (P:Program):TypeDesc→TK
 | .int k => .int k
 | .bool => .bool
 | .string => .str
 | .pointer _ => .ptr
 | .slice e => .slc e
 | .struct fs=>if fs.toList.all (fun f=>(P.info? f.type).isSome&&(P.underlying f.type).isSome)=true then .agg (fs.toList.map fun f=>(f.offset,P.cellsOf f.type,kP P f.type)) else .none
 | .array n e=>if (P.info? e).isSome=true then .arr n e else .none
 | .map k e => .map k e
 | .func _ _ _ => .fn
 | .interface _ => .ifc
 | _ => .none
theorem nP {P:Program} {d:TypeDesc}:(∀ e,kOf P d = .slc e→d = .slice e)∧(kOf P d = .str→d = .string)∧(kOf P d = .bool→d = .bool)∧(∀ k,kOf P d = .int k→d = .int k) ∧
  (kOf P d = .ptr→∃ e,d = .pointer e)∧(∀ k e,kOf P d = .map k e→d = .map k e):=by
 cases d
 case struct fs=>
  refine ⟨fun e h=>?_,fun h=>?_,fun h=>?_,fun k h=>?_,fun h=>?_,fun k e h=>?_⟩<;>(simp only [kOf] at h;split at h<;>cases h)
 case array n e=>
  refine ⟨fun e h=>?_,fun h=>?_,fun h=>?_,fun k h=>?_,fun h=>?_,fun k e h=>?_⟩<;>(simp only [kOf] at h;split at h<;>cases h)
 all_goals simp [kOf]
def teOf (P:Program) (t:Nat):TE:=
 match P.info? t,P.underlying t with
 | some i,some d=>match i.zero with
   | some z=>if z.cells.size=i.size then ⟨kOf P d,i.size,i.bytes,z,[]⟩ else ⟨.none,0,0,undef,[]⟩
   | none=>⟨.none,0,0,undef,[]⟩
 | _,_=>⟨.none,0,0,undef,[]⟩
def TOK (P:Program) (T:Nat→TE):Prop:=∀ t,(T t).k = .none∨({ T t with ks:=[] }=teOf P t∧((T t).ks=[]∨(T t).ks=ksOf P t))
structure TFacts (P:Program) (t:Nat) (e:TE) (d:TypeDesc) (i:TypeInfo):Prop where
 info:P.info? t=some i
 und:P.underlying t=some d
 k:e.k=kOf P d
 size:i.size=e.size
 bytes:i.bytes=e.bytes
 zero:i.zero=some e.zero
 kQ:e.zero.cells.size=e.size
theorem TOK.facts {P:Program} {T:Nat→TE} (h:TOK P T) {t:Nat} (hk:(T t).k ≠ .none):∃ d i,TFacts P t (T t) d i:=by
 rcases h t with h | ⟨h,_⟩
 ·exact absurd h hk
 ·have hk':({ T t with ks:=[] }:TE).k ≠ .none:=hk
  suffices H:∃ d i,TFacts P t { T t with ks:=[] } d i by
   obtain ⟨d,i,f⟩:=H;exact ⟨d,i,f.info,f.und,f.k,f.size,f.bytes,f.zero,f.kQ⟩
  generalize ({ T t with ks:=[] }:TE)=e at h hk';unfold teOf at h;split at h
  ·rename_i i d hi hd;split at h
   ·rename_i z hz;split at h
    ·rename_i hs;rw [h];exact ⟨d,i,hi,hd,rfl,rfl,rfl,hz,hs⟩
    ·rw [h] at hk';exact absurd rfl hk'
   ·rw [h] at hk';exact absurd rfl hk'
  ·rw [h] at hk';exact absurd rfl hk'
theorem TOK.keys {P:Program} {T:Nat→TE} (h:TOK P T) {t:Nat} (hk:(T t).k ≠ .none) (hn:(T t).ks≠[]):P.eqGuardType P.depth t=false∧rC P 6 t=some (T t).ks:=by
 rcases h t with h | ⟨_,h | h⟩
 ·exact absurd h hk
 ·exact absurd h hn
 ·rw [h] at hn ⊢;unfold ksOf at hn ⊢;split at hn
  ·exact absurd rfl hn
  ·rename_i hg;rw [if_neg hg];refine ⟨by simpa using hg,?_⟩;cases he:rC P 6 t with
   | none=>rw [he] at hn;exact absurd rfl hn
   | some ks=>rfl
section
variable {P:Program} {T:Nat→TE}
theorem TFacts.cellsOf {t:Nat} {e:TE} {d:TypeDesc} {i:TypeInfo} (h:TFacts P t e d i):P.cellsOf t=e.size:=by
 simp [Program.cellsOf,h.info,h.size]
theorem TFacts.sizeOf {t:Nat} {e:TE} {d:TypeDesc} {i:TypeInfo} (h:TFacts P t e d i) (w:World):(sizeOf t).run P w = .ok e.size w:=by
 rw [← h.cellsOf];exact run_sizeOf w h.info
def TK.isAgg:TK→Bool
 | .agg _=>true
 | .arr _ _=>true
 | _=>false
theorem TFacts.Af {t:Nat} {e:TE} {d:TypeDesc} {i:TypeInfo} (h:TFacts P t e d i) (hk:e.k ≠ .none):(isAgg t).run P=fun w => .ok e.k.isAgg w:=by
 funext w;have hk':=h.k;cases d
 case struct fs=>
  by_cases hc:fs.toList.all (fun f=>(P.info? f.type).isSome&&(P.underlying f.type).isSome)=true
  ·simp only [kOf,if_pos hc] at hk';simp [isAgg,run_underlying h.und,hk',TK.isAgg]
  ·simp only [kOf,if_neg hc] at hk';exact absurd hk' hk
 case array n e0=>
  by_cases hc:(P.info? e0).isSome=true
  ·simp only [kOf,if_pos hc] at hk';simp [isAgg,run_underlying h.und,hk',TK.isAgg]
  ·simp only [kOf,if_neg hc] at hk';exact absurd hk' hk
 all_goals simp [kOf] at hk'<;>simp [isAgg,run_underlying h.und,hk',TK.isAgg]<;>exact absurd hk' hk
theorem TFacts.Ih {t:Nat} {e:TE} {d:TypeDesc} {i:TypeInfo} (h:TFacts P t e d i) (hk:e.k.isAgg=true) (w:World) (b o:Nat) (f:Nat→Value)
  (hc:∀ j,j<e.size→w.cell? ⟨b,o+j,none⟩=some (f j)):(loadVar t ⟨b,o,none⟩).run P w = .ok (.agg ((List.range e.size).map f).toArray) w:=by
 have hl:=run_loadCells (P:=P) w ⟨b,o,none⟩ e.size f (fun j hj=>by rw [Addr.add_lit];exact hc j hj);have ha:=congrFun (h.Af (by intro e0;rw [e0] at hk;cases hk)) w;simp [loadVar,ha,hk,h.sizeOf w,hl]
theorem TFacts.Ig {t:Nat} {e:TE} {d:TypeDesc} {i:TypeInfo} (h:TFacts P t e d i) (hk:e.k ≠ .none) (hk':e.k.isAgg=false) (w:World) (b o:Nat) (v:Value)
  (hc:w.cell? ⟨b,o,none⟩=some v):(loadVar t ⟨b,o,none⟩).run P w = .ok v w:=by
 have ha:=congrFun (h.Af hk) w;simp [loadVar,ha,hk',hc]
end
def asAgg (x:D) (K:List D→Prop):Prop:=match x with | .agg cs=>K cs | _=>False
theorem AA {x:D} {K:List D→Prop} (h:asAgg x K):∃ s,x = .agg s∧K s:=by cases x<;>first | exact ⟨_,rfl,h⟩ | exact h.elim
section
variable {P:Program} {T:Nat→TE} {ok:Nat→Prop} {w:World}
theorem GZ (hT:TOK P T) {t f:Nat} {fs:List (Nat×Nat×Bool)} {fo fsz:Nat} {fb:Bool} (hk:(T t).k = .agg fs) (hf:fs[f]?=some (fo,fsz,fb)) (hsz:fsz≠0) (b o:Nat) :
  (Instr.fieldAt t (.pointer (some ⟨b,o,none⟩)) f).run P w = .ok (.pointer (some ⟨b,o+fo,none⟩)) w:=by
 obtain ⟨d,i,h⟩:=hT.facts (t:=t) (by rw [hk];intro e;cases e);have hd:=h.k;rw [hk] at hd;cases d with
 | struct fields=>
   simp only [kOf] at hd;split at hd
   case isFalse=>cases hd
   simp only [TK.agg.injEq] at hd;subst hd;simp only [List.getElem?_map,Option.map_eq_some_iff] at hf;obtain ⟨fd,hfd,he⟩:=hf;simp only [Prod.mk.injEq] at he;obtain ⟨rfl,hz,_⟩:=he;have hfd':fields[f]?=some fd:=(by simpa using hfd);have hs:(sizeOf fd.type).run P w = .ok fsz w:=by
    unfold Program.cellsOf at hz;cases hi:P.info? fd.type with
    | none=>rw [hi] at hz;simp at hz;omega
    | some i=>
      rw [hi] at hz;simp at hz;simp [Go.sizeOf,typeInfo,hi,hz]
   simp [Instr.fieldAt,run_underlying h.und,hfd',Instr.sureAddr,fieldPlace,hs,hsz,Addr.add_lit]
 | array n e=>(simp only [kOf] at hd;split at hd<;>cases hd)
 | _=>simp [kOf] at hd
end
theorem YA (s:List UInt8) (l h:Nat):(⟨s.toArray⟩:ByteArray).extract l h=⟨((s.take h).drop l).toArray⟩:=by
 apply ByteArray.ext;apply Array.ext';simp [List.extract_eq_take_drop];rw [List.take_drop];rcases Nat.le_total l h with e | e
 ·rw [show l+(h-l)=h by omega]
 ·rw [show h-l=0 by omega,List.drop_eq_nil_of_le (by simp;omega),List.drop_eq_nil_of_le (by simp;omega)]
theorem X8 (s:List UInt8) (i:Nat) (c:UInt8) (hc:s[i]?=some c):(⟨s.toArray⟩:ByteArray)[i]?=some c:=by
 obtain ⟨hl,e⟩:=List.getElem?_eq_some_iff.1 hc;have:i<(⟨s.toArray⟩:ByteArray).size:=by simpa [ByteArray.size] using hl
 rw [getElem?_pos (⟨s.toArray⟩:ByteArray) i this];exact congrArg some e
section
variable {P:Program} {T:Nat→TE} {ok:Nat→Prop} {w:World}
theorem RdD.cellsOf {v:Value} {x:D} (h:RdD ok w v x):v.cells.size=x.cells.length ∧
  ∀ (j:Nat) u c,v.cells[j]?=some u→x.cells[j]?=some c→RdD ok w u c∧u.oneCell'=true∧c.one=true:=by
 cases h with
 | agg vs cs h1 h2 h3=>exact ⟨h1,fun j u c hu hc=>⟨h2 j u c hu hc,h3 j u c hu hc⟩⟩
 | bool b=>exact ⟨rfl,fun j u c hu hc=>by cases j<;>simp [Value.cells,D.cells] at hu hc;subst hu;subst hc;exact ⟨.bool b,rfl,rfl⟩⟩
 | int k n=>exact ⟨rfl,fun j u c hu hc=>by cases j<;>simp [Value.cells,D.cells] at hu hc;subst hu;subst hc;exact ⟨.int k n,rfl,rfl⟩⟩
 | str s hs=>exact ⟨rfl,fun j u c hu hc=>by cases j<;>simp [Value.cells,D.cells] at hu hc;subst hu;subst hc;exact ⟨.str s hs,rfl,rfl⟩⟩
 | mO a=>exact ⟨rfl,fun j u c hu hc=>by cases j<;>simp [Value.cells,D.cells] at hu hc;subst hu;subst hc;exact ⟨.mO a,rfl,rfl⟩⟩
 | lst a cap sz xs us h1 h2 h3 h4 h5 h6 h7 h8=>
   exact ⟨rfl,fun j u c hu hc=>by cases j<;>simp [Value.cells,D.cells] at hu hc;subst hu;subst hc;exact ⟨.lst a cap sz xs us h1 h2 h3 h4 h5 h6 h7 h8,rfl,rfl⟩⟩
 | ref b o off cs us h1 h2 h3=>exact ⟨rfl,fun j u c hu hc=>by cases j<;>simp [Value.cells,D.cells] at hu hc;subst hu;subst hc;exact ⟨.ref b o off cs us h1 h2 h3,rfl,rfl⟩⟩
 | fC=>exact ⟨rfl,fun j u c hu hc=>by cases j<;>simp [Value.cells,D.cells] at hu hc;subst hu;subst hc;exact ⟨.fC,rfl,rfl⟩⟩
 | XK=>exact ⟨rfl,fun j u c hu hc=>by cases j<;>simp [Value.cells,D.cells] at hu hc;subst hu;subst hc;exact ⟨.XK,rfl,rfl⟩⟩
 | map r clock ents es h1 h2 h3 h4 h5=>exact ⟨rfl,fun j u c hu hc=>by cases j<;>simp [Value.cells,D.cells] at hu hc;subst hu;subst hc;exact ⟨.map r clock ents es h1 h2 h3 h4 h5,rfl,rfl⟩⟩
 | fn f vs cs h1 h2=>exact ⟨rfl,fun j u c hu hc=>by cases j<;>simp [Value.cells,D.cells] at hu hc;subst hu;subst hc;exact ⟨.fn f vs cs h1 h2,rfl,rfl⟩⟩
theorem TOK.slc (hT:TOK P T) {t e:Nat} (hk:(T t).k = .slc e):P.underlying t=some (.slice e):=by
 obtain ⟨d,i,h⟩:=hT.facts (t:=t) (by rw [hk];intro e;cases e);have hd:=h.k;rw [hk] at hd;rw [nP.1 e hd.symm] at h;exact h.und
end
def Bh (b:Bool) (p:Prop):Prop:=match b with | true=>p | false=>False
theorem qY {b:Bool} {p:Prop} (h:Bh b p):b=true∧p:=by cases b<;>first | exact ⟨rfl,h⟩ | exact h.elim
def gW:SK→D→Bool
 | .b,.bool _=>true
 | .i k,.int k' _=>match decEq k k' with | .isTrue _=>true | .isFalse _=>false
 | .s,.str _=>true
 | _,_=>false
theorem mQ {k k':IntKind} {n:Int} (h:gW (.i k) (.int k' n)=true):k=k':=by
 have h':(match decEq k k' with | .isTrue _=>true | .isFalse _=>false)=true:=h;split at h'
 ·assumption
 ·cases h'
def fG:List SK→List D→Bool
 | [],[]=>true
 | k::ks,c::cs=>match gW k c with | true=>fG ks cs | false=>false
 | _,_=>false
def eq1:D→D→Bool
 | .bool a,.bool b=>a==b
 | .int _ a,.int _ b=>a==b
 | .str a,.str b=>a==b
 | _,_=>false
def aW:List D→List D→Bool
 | [],[]=>true
 | [x],[y]=>eq1 x y
 | x::xs,y::ys=>eq1 x y&&aW xs ys
 | _,_=>false
theorem jK (x y:D) (xs ys:List D) (h:xs.length=ys.length):aW (x::xs) (y::ys)=(eq1 x y&&aW xs ys):=by
 cases xs<;>cases ys<;>simp_all [aW]
theorem pq:∀ (xs ys xs' ys':List D),xs.length=ys.length→xs'.length=ys'.length→aW (xs++xs') (ys++ys')=(aW xs ys&&aW xs' ys')
 | [],[],xs',ys',_,_=>by simp [aW]
 | x::xs,y::ys,xs',ys',h,h'=>by
   rw [List.cons_append,List.cons_append,jK x y _ _ (by simp at h ⊢;omega),jK x y xs ys (by simpa using h),pq xs ys xs' ys' (by simpa using h) h',Bool.and_assoc]
 | [],_::_,_,_,h,_=>by simp at h
 | _::_,[],_,_,h,_=>by simp at h
theorem dn:∀ {ks:List SK} {cs:List D},fG ks cs=true→cs.length=ks.length
 | [],[],_=>rfl
 | k::ks,c::cs,h=>by
   unfold fG at h;split at h
   ·simp [dn h]
   ·cases h
 | [],_::_,h=>by simp [fG] at h
 | _::_,[],h=>by simp [fG] at h
theorem lu:∀ {ks ks':List SK} {cs:List D},fG (ks++ks') cs=true→fG ks (cs.take ks.length)=true∧fG ks' (cs.drop ks.length)=true
 | [],ks',cs,h=>by simpa [fG] using h
 | k::ks,ks',c::cs,h=>by
   simp only [List.cons_append,fG] at h ⊢;split at h
   ·rename_i h1;simp only [List.length_cons,List.take_succ_cons,List.drop_succ_cons,fG,h1];exact lu h
   ·cases h
 | _::_,_,[],h=>by simp [fG] at h
section
variable {P:Program}
def Shape (P:Program) (t:Nat) (x:D):Prop:=x.one=!(kP P t)
theorem vU {t:Nat} {d:TypeDesc} (hu:P.underlying t=some d) (w:World):(isAgg t).run P w = .ok (kP P t) w:=by
 unfold kP;rw [hu];cases d<;>simp [isAgg,run_underlying hu]
theorem RdD.Xk {ok:Nat→Prop} {w:World} {xs:Array Value} {cs:List D} (h:RdD ok w (.agg xs) (.agg cs)) (off n:Nat) (hn:off+n≤cs.length):RdD ok w (.agg (xs.extract off (off+n))) (.agg ((cs.drop off).take n)):=by
 cases h with
 | agg _ _ h1 h2 h3=>
   have key:∀ (i:Nat) v c,(xs.extract off (off+n))[i]?=some v→((cs.drop off).take n)[i]?=some c→xs[off+i]?=some v∧cs[off+i]?=some c:=fun i v c hv hc=>by
    have hi:i<n:=by
     have:=(List.getElem?_eq_some_iff.1 hc).1;simp at this;omega
    rw [List.getElem?_take_of_lt hi,List.getElem?_drop] at hc;refine ⟨?_,hc⟩;rw [Array.getElem?_extract] at hv;split at hv
    ·exact hv
    ·cases hv
   refine .agg _ _ ?_ (fun i v c hv hc=>h2 _ v c (key i v c hv hc).1 (key i v c hv hc).2) (fun i v c hv hc=>h3 _ v c (key i v c hv hc).1 (key i v c hv hc).2);simp;omega
theorem uZ {e:Nat} {d:TypeDesc} (hu:P.underlying e=some d) {n:Nat} (hs:P.cellsOf e=n) {ok:Nat→Prop} {w:World} {xs:Array Value} {cs:List D} (h:RdD ok w (.agg xs) (.agg cs)) {off:Nat} (hn:off+n≤cs.length) (h1:kP P e=false→n=1) :
  ∃ v x,(part e xs off).run P w = .ok v w∧RdD ok w v x∧x.cells=(cs.drop off).take n∧Shape P e x:=by
 obtain ⟨i,hi⟩:∃ i,P.info? e=some i:=by
  unfold Program.underlying at hu;cases hi:P.info? e with
  | none=>simp [hi] at hu
  | some i=>exact ⟨i,rfl⟩
 cases ha:kP P e with
 | true=>
   refine ⟨.agg (xs.extract off (off+n)),.agg ((cs.drop off).take n),?_,h.Xk off n hn,rfl,by simp [Shape,ha,D.one]⟩;have hz:(sizeOf e).run P w = .ok n w:=(by rw [run_sizeOf w hi,hs]);simp [part,vU hu,ha,hz]
 | false=>
   have hn1:=h1 ha;subst hn1;cases h with
   | agg _ _ q1 q2 q3=>
     have hc:cs[off]?=some cs[off]:=(by simp);have hx:xs[off]?=some xs[off]:=(by simp);have o1:=(q3 off _ _ hx hc).2;refine ⟨xs[off],cs[off],?_,q2 off _ _ hx hc,?_,by simp [Shape,ha,o1]⟩
     ·simp [part,vU hu,ha,hx]
     ·have:(cs.drop off).take 1=[cs[off]]:=(by rw [List.drop_eq_getElem_cons (by omega)];rfl);rw [this];cases hcs:cs[off]<;>rw [hcs] at o1<;>first | rfl | cases o1
theorem Rz:∀ {m t:Nat} {ks:List SK},rC P m t=some ks→kP P t=false→ks.length=1
 | 0,_,_,h,_=>by simp [rC] at h
 | m+1,t,ks,h,ha=>by
   unfold rC at h;unfold kP at ha;cases hu:P.underlying t with
   | none=>rw [hu] at h;cases h
   | some d=>
     rw [hu] at h ha;cases d<;>simp at h ha<;>first | (subst h;rfl) | exact absurd h id
theorem Ry {m t:Nat} {ks:List SK} (h:rC P m t=some ks):∃ d,P.underlying t=some d:=by
 cases m with
 | zero=>simp [rC] at h
 | succ m=>
   unfold rC at h;cases hu:P.underlying t with
   | none=>rw [hu] at h;cases h
   | some d=>exact ⟨d,rfl⟩
def Xd (P:Program) (n t:Nat) (ks:List SK):Prop:=∀ (ok:Nat→Prop) (w:World) (vx vy:Value) (x y:D),RdD ok w vx x→RdD ok w vy y→Shape P t x→Shape P t y→fG ks x.cells=true→fG ks y.cells=true →
 (Op.equalIn n t vx vy).run P w = .ok (aW x.cells y.cells) w∧∀ em,(Instr.checkKey em n t vx).run P w = .ok () w
theorem qM {n:Nat} {rec:Nat→Option (List SK)} (hrec:∀ t ks,rec t=some ks→Xd P n t ks∧(∃ d,P.underlying t=some d)∧(kP P t=false→ks.length=1)) {ok:Nat→Prop} {w:World} {xs ys:Array Value} {cx cy:List D}
  (hx:RdD ok w (.agg xs) (.agg cx)) (hy:RdD ok w (.agg ys) (.agg cy)):∀ (fs:List Field) (off:Nat) (ks:List SK),Jy P rec fs off=some ks→off≤cx.length→off≤cy.length→fG ks (cx.drop off)=true→fG ks (cy.drop off)=true →
  (Op.eqFields n xs ys fs).run P w = .ok (aW (cx.drop off) (cy.drop off)) w
 | [],off,ks,h,ox,oy,fx,fy=>by
   simp [Jy] at h;subst h;have e1:cx.drop off=[]:=(by have:=dn fx;simp at this;simpa using (by omega:cx.length≤off));have e2:cy.drop off=[]:=(by have:=dn fy;simp at this;simpa using (by omega:cy.length≤off));rw [e1,e2];simp [Op.eqFields,aW]
 | f::fs,off,ks,h,ox,oy,fx,fy=>by
   unfold Jy at h;split at h
   ·cases h
   rename_i hname;split at h
   case isFalse=>cases h
   rename_i hoff;split at h
   case h_2=>cases h
   rename_i k1 hk1;split at h
   case isFalse=>cases h
   rename_i hsz;simp only [Option.map_eq_some_iff] at h;obtain ⟨k2,hk2,rfl⟩:=h;obtain ⟨heq,⟨d,hu⟩,hag⟩:=hrec _ _ hk1;have lx:=dn fx;have ly:=dn fy;simp only [List.length_append,List.length_drop] at lx ly;obtain ⟨f1,f2⟩:=lu fx;obtain ⟨g1,g2⟩:=lu fy;obtain ⟨a,da,p1,p2,p3,p4⟩:=uZ hu hsz hx (off:=off) (by omega) hag;obtain ⟨b,db,q1,q2,q3,q4⟩:=uZ hu hsz hy (off:=off) (by omega) hag;have:=(heq ok w a b da db p2 q2 p4 q4 (by rw [p3];exact f1) (by rw [q3];exact g1)).1;rw [List.drop_drop] at f2 g2;have ih:=qM hrec hx hy fs (off+k1.length) k2 hk2 (by omega) (by omega) f2 g2;have el:∀ (c:List D),c.length-off=k1.length+k2.length→c.drop off=(c.drop off).take k1.length++c.drop (off+k1.length):=fun c _=>by rw [← List.drop_drop,List.take_append_drop]
   rw [el cx lx,el cy ly,pq _ _ _ _ (by simp;omega) (by simp;omega)];simp only [Op.eqFields,hname,ne_eq,not_false_eq_true,if_true,Sem.run_bind,hoff,p1,q1,Result.andThen_ok,this,p3,q3];cases aW ((cx.drop off).take k1.length) ((cy.drop off).take k1.length)
   ·simp
   ·simp [ih]
theorem mg {n:Nat} {em:Bool} {rec:Nat→Option (List SK)} (hrec:∀ t ks,rec t=some ks→Xd P n t ks∧(∃ d,P.underlying t=some d)∧(kP P t=false→ks.length=1)) {ok:Nat→Prop} {w:World} {xs:Array Value} {cx:List D}
  (hx:RdD ok w (.agg xs) (.agg cx)):∀ (fs:List Field) (off:Nat) (ks:List SK),Jy P rec fs off=some ks→off≤cx.length→fG ks (cx.drop off)=true →
  ((forIn fs PUnit.unit fun f _=>if f.name ≠ "_" then do Instr.checkKey em n f.type (← part f.type xs f.offset);pure (ForInStep.yield PUnit.unit) else pure (ForInStep.yield PUnit.unit)):Sem PUnit).run P w = .ok PUnit.unit w
 | [],off,ks,h,ox,fx=>by simp
 | f::fs,off,ks,h,ox,fx=>by
   have lx:=dn fx;unfold Jy at h;split at h
   ·cases h
   rename_i hname;split at h
   case isFalse=>cases h
   rename_i hoff;split at h
   case h_2=>cases h
   rename_i k1 hk1;split at h
   case isFalse=>cases h
   rename_i hsz;simp only [Option.map_eq_some_iff] at h;obtain ⟨k2,hk2,rfl⟩:=h;obtain ⟨heq,⟨d,hu⟩,hag⟩:=hrec _ _ hk1;obtain ⟨f1,f2⟩:=lu fx;simp only [List.length_append,List.length_drop] at lx;obtain ⟨a,da,p1,p2,p3,p4⟩:=uZ hu hsz hx (off:=off) (by omega) hag;have:=(heq ok w a a da da p2 p2 p4 p4 (by rw [p3];exact f1) (by rw [p3];exact f1)).2 em;rw [List.drop_drop] at f2;have ih:=mg (em:=em) hrec hx fs (off+k1.length) k2 hk2 (by omega) f2;simp only [List.forIn_cons,hname,ne_eq,not_false_eq_true,if_true,Sem.run_bind,hoff,p1,Result.andThen_ok,this,Sem.run_pure];exact ih
def WG:TypeDesc→Bool
 | .struct _ | .array _ _=>true
 | _=>false
theorem vZ (d:Nat):∀ (m t:Nat) (ks:List SK),rC P m t=some ks→Xd P (d+m) t ks
 | 0,_,_,h=>by simp [rC] at h
 | m+1,t,ks,h=>by
   intro ok w vx vy x y hx hy sx sy fx fy;have h0:=h;unfold rC at h;cases hu:P.underlying t with
   | none=>rw [hu] at h;cases h
   | some td=>
     rw [hu] at h;have hagg:kP P t=WG td:=(by unfold kP;rw [hu];cases td<;>rfl);cases td<;>simp only at h<;>try (cases h;done)
     case bool=>
      cases h;simp only [Shape,hagg,WG,Bool.not_false] at sx sy;cases x<;>simp [D.one,D.cells,fG,gW] at sx fx;cases y<;>simp [D.one,D.cells,fG,gW] at sy fy;cases hx;cases hy;refine ⟨?_,fun em=>?_⟩
      ·show (Op.equalIn (d+m+1) t _ _).run P w=_;simp [Op.equalIn,run_underlying hu,D.cells,aW,eq1]
      ·show (Instr.checkKey em (d+m+1) t _).run P w=_;simp [Instr.checkKey,run_underlying hu]
     case int k=>
      cases h;simp only [Shape,hagg,WG,Bool.not_false] at sx sy;cases x<;>simp [D.one,D.cells,fG] at sx fx<;>try (simp [gW] at fx;done)
      cases y<;>simp [D.one,D.cells,fG] at sy fy<;>try (simp [gW] at fy;done)
      rename_i kx nx ky ny;have ekx:k=kx:=mQ (n:=nx) (by split at fx;assumption;cases fx);have eky:k=ky:=mQ (n:=ny) (by split at fy;assumption;cases fy);subst ekx;subst eky;cases hx;cases hy;refine ⟨?_,fun em=>?_⟩
      ·show (Op.equalIn (d+m+1) t _ _).run P w=_;simp [Op.equalIn,run_underlying hu,D.cells,aW,eq1]
      ·show (Instr.checkKey em (d+m+1) t _).run P w=_;simp [Instr.checkKey,run_underlying hu]
     case string=>
      cases h;simp only [Shape,hagg,WG,Bool.not_false] at sx sy;cases x<;>simp [D.one,D.cells,fG,gW] at sx fx;cases y<;>simp [D.one,D.cells,fG,gW] at sy fy;rename_i a b;cases hx;cases hy;have ea:(⟨a.toArray⟩:ByteArray).toList=a:=(by rw [ByteArray.toList_eq]);have eb:(⟨b.toArray⟩:ByteArray).toList=b:=(by rw [ByteArray.toList_eq]);refine ⟨?_,fun em=>?_⟩
      ·show (Op.equalIn (d+m+1) t _ _).run P w=_;simp [Op.equalIn,run_underlying hu,D.cells,aW,eq1,beq_toListBytes,ea,eb]
      ·show (Instr.checkKey em (d+m+1) t _).run P w=_;simp [Instr.checkKey,run_underlying hu]
     case struct fs=>
      split at h
      ·cases h
      rename_i hst;simp only [Shape,hagg,WG,Bool.not_true] at sx sy;cases x<;>simp [D.one] at sx;cases y<;>simp [D.one] at sy;rename_i cx cy;cases vx<;>first | (cases hx;done) | skip
      cases vy<;>first | (cases hy;done) | skip
      rename_i xs ys;have hfs:P.fieldsOf t=fs:=(by simp [Program.fieldsOf,hu]);have hrec:∀ t ks,rC P m t=some ks→Xd P (d+m) t ks∧(∃ d,P.underlying t=some d)∧(kP P t=false→ks.length=1):=fun t ks h=>⟨vZ d m t ks h,Ry h,Rz h⟩
      have key:=qM hrec hx hy fs.toList 0 ks h (by omega) (by omega) (by simpa [D.cells] using fx) (by simpa [D.cells] using fy);refine ⟨?_,fun em=>?_⟩
      ·show (Op.equalIn (d+m+1) t _ _).run P w=_;rw [run_equalIn_struct w (d+m) t xs ys (by rw [hfs];exact hu) (by simpa using hst),hfs]
       simpa [D.cells] using key
      ·show (Instr.checkKey em (d+m+1) t _).run P w=_;have key2:=mg (em:=em) hrec hx fs.toList 0 ks h (by omega) (by simpa [D.cells] using fx);rw [Instr.checkKey];simp only [Sem.run_bind,run_underlying hu,Result.andThen_ok];rw [← Array.forIn_toList];simp at key2 ⊢;rw [key2];rfl
end
theorem Gw {n:Int} (h:-9223372036854775808≤n∧n≤9223372036854775807):IntKind.i64.wrap n=n:=by
 unfold IntKind.wrap;simp [IntKind.bits,IntKind.signed];omega
def bitsOf (op:BinOp) (k:IntKind) (x y:Int):Int:=
 let a:=BitVec.ofInt k.bits x
 let b:=BitVec.ofInt k.bits y
 match op with
 | .and=>k.wrap (a &&& b).toNat
 | .or=>k.wrap (a ||| b).toNat
 | .xor=>k.wrap (a ^^^ b).toNat
 | _=>k.wrap (a &&& ~~~b).toNat
section
variable {P:Program} {T:Nat→TE} {ok:Nat→Prop} {w:World}
theorem xE (op:BinOp) (t:Nat) (x y:Operand) (k k':IntKind) (a b:Int):(eqGuard op t x y (.int k a) (.int k' b)).run P w = .ok () w:=by
 cases op<;>rfl
theorem xC (op:BinOp) (t:Nat) (x y:Operand) (a b:ByteArray):(eqGuard op t x y (.string a) (.string b)).run P w = .ok () w:=by
 cases op<;>rfl
theorem vw (op:BinOp) (t:Nat) (x y:Operand) (a b:Bool):(eqGuard op t x y (.bool a) (.bool b)).run P w = .ok () w:=by
 cases op<;>rfl
theorem jw (op:BinOp) (t:Nat) (x y:Operand) (a b:Option Addr):(eqGuard op t x y (.pointer a) (.pointer b)).run P w = .ok () w:=by
 cases op<;>rfl
theorem run_equalIn_bool (n:Nat) {t:Nat} (hu:P.underlying t=some .bool) (a b:Bool):(Op.equalIn (n+1) t (.bool a) (.bool b)).run P w = .ok (a==b) w:=by
 simp [Op.equalIn,run_underlying hu]
theorem xA (n:Nat) {t e:Nat} (hu:P.underlying t=some (.pointer e)) (a b:Option Addr) (h0:a=none∨b=none) :
  (Op.equalIn (n+1) t (.pointer a) (.pointer b)).run P w = .ok (a.isNone&&b.isNone) w:=by
 cases a with
 | none=>simp [Op.equalIn,run_underlying hu]
 | some a=>cases b with
   | none=>simp [Op.equalIn,run_underlying hu]
   | some b=>simp at h0
theorem run_equal_bool (hT:TOK P T) {t:Nat} (hk:(T t).k = .bool) (a b:Bool):(Op.equal t (.bool a) (.bool b)).run P w = .ok (a==b) w:=by
 obtain ⟨d,inf,h⟩:=hT.facts (t:=t) (by rw [hk];intro e;cases e);have hd:=h.k;rw [hk] at hd;have hu:P.underlying t=some .bool:=by rw [nP.2.2.1 hd.symm] at h;exact h.und
 exact run_equalIn_bool 9999 hu a b
theorem lI (hT:TOK P T) {t:Nat} (hk:(T t).k = .ptr) (a b:Option Addr) (h0:a=none∨b=none):(Op.equal t (.pointer a) (.pointer b)).run P w = .ok (a.isNone&&b.isNone) w:=by
 obtain ⟨d,inf,h⟩:=hT.facts (t:=t) (by rw [hk];intro e;cases e);have hd:=h.k;rw [hk] at hd;have hu:∃ e,P.underlying t=some (.pointer e):=by
  obtain ⟨e,rfl⟩:=nP.2.2.2.2.1 hd.symm;exact ⟨e,h.und⟩
 obtain ⟨e,hu⟩:=hu;exact xA 9999 hu a b h0
theorem TOK.int (hT:TOK P T) {t:Nat} {k:IntKind} (hk:(T t).k = .int k):P.underlying t=some (.int k):=by
 obtain ⟨d,i,h⟩:=hT.facts (t:=t) (by rw [hk];intro e;cases e);have hd:=h.k;rw [hk] at hd;rw [nP.2.2.2.1 k hd.symm] at h;exact h.und
end
end Go.Abs
