/- What the row's list says of check.keywords and lexer.words; what alive answers. -/
import Derived.Test.YtpmapognbdiahaaGreatDoorORunAOne
import Derived.Test.YtpmapognbdiahaaGreatDoorSimDA24And
import Derived.Test.YtpmapognbdiahaaGreatDoorCards
import Derived.Test.YtpmapognbdiahaaGreatDoorTie
import Derived.Deep.DeepHandedRow
import Derived.Lib.LaidTab
import Derived.Deep.Matrix
import Derived.Shelf.Vars
import Derived.WalkKit
import Derived.ProofKit
import Derived.OpenShut
set_option linter.all false
namespace Go.Proofs.YtpmapognbdiahaaGreatDoor
open Go Go.RowKit Go.ChangeShapes Go.WideShapes
theorem EY {P:Program} {w:World}:∀ {l:List (String×DataW Unit)} {ps:List MemPlace},DataW.LaidVars P w l ps→∀ n d,(n,d)∈l →
  ∃ g t cs fuel p,P.globalNamed n=some g∧(P.globals[g]?).map (·.type)=some t∧w.var? P n=some cs∧DataW.trod (fun _=>()) P w 0 (fun _=>true) false fuel t cs.toList=some (d,p)
 | [],_,_,n,d,hm=>by cases hm
 | (n',d')::r,ps,h,n,d,hm=>by
   obtain ⟨g,t,cs,fuel,p,q,h1,h2,h3,h4,h5,_⟩:=h;rcases List.mem_cons.1 hm with he | hm
   ·cases he;exact ⟨g,t,cs,fuel,p,h1,h2,h3,h4⟩
   ·exact EY h5 n d hm
theorem Bo {P:Program} {w:World} {n:String} {g:Nat} {cs:Array Value} (hg:P.globalNamed n=some g) (h:w.var? P n=some cs):∃ t fz,w.heap[g]?=some (.cells cs t fz):=by
 unfold World.var? at h;rw [hg,Option.bind_some] at h;split at h
 ·rename_i cs' t' fz' hw;cases h;exact ⟨_,_,hw⟩
 ·cases h
def dV:Abs.D→Value
 | .bool b => .bool b
 | .int k n => .int k n
 | .str s => .string ⟨s.toArray⟩
 | _ => .nilIface
theorem agu (d:Abs.D):(dV d).oneCell'=true:=by cases d<;>rfl
def Ku:Lit→Value
 | .bool b => .bool b
 | .int k n => .int k n
 | .string s => .string ⟨s.toArray⟩
 | .float k b => .float k b
 | .nil => .nilIface
def NH {H:Type} (d:DataW H):List Value:=match d with
 | .agg [.lit a,.lit b,.lit c,.lit e]=>[Ku a,Ku b,Ku c,Ku e]
 | _=>[]
def Kv {H:Type} (d:DataW H):List Value:=match d with
 | .lit a=>[Ku a]
 | _=>[]
def EZ:List Value:=match (Rows.laid_gameplayer_check_keywords:DataW Unit) with
 | .agg ds=>ds.flatMap NH
 | _=>[]
def mJ (d:DataW Unit):List Value:=match d with
 | .agg ds=>ds.flatMap Kv
 | _=>[]
set_option maxRecDepth 100000 in
theorem PY {H:Type} {enc:TypeId×Value→H} {w:World} {base:Nat} {sp:Nat→Bool} {held:Bool} {fuel:Nat} {cs:List Value} {x:DataW H×List MemPlace}
  (h:DataW.trod enc Tryz.prog w base sp held fuel 295 cs=some x):cs=NH x.1∧cs.length=4:=by
 obtain ⟨xs,n,_,rfl,hl,hlen,hf⟩:=DataW.trod_struct Tryz.underlying295 h;have hl:cs.length=4:=hl.trans (by kernel_rfl)
 match xs,hlen,cs,hl with
 | [y0,y1,y2,y3],_,[c0,c1,c2,c3],_=>
   have f0:=hf 0 _ rfl;have f1:=hf 1 _ rfl;have f2:=hf 2 _ rfl;have f3:=hf 3 _ rfl;have k9:Tryz.prog.cellsOf 9=1:=(by kernel_rfl);have k3:Tryz.prog.cellsOf 3=1:=(by kernel_rfl);have k4:Tryz.prog.cellsOf 4=1:=(by kernel_rfl);simp only [k9,k3,k4,List.drop,List.take,List.getElem?_cons_zero,List.getElem?_cons_succ] at f0 f1 f2 f3;obtain ⟨s,e0,rfl,_⟩:=DataW.trod_string Tryz.underlying9 f0;obtain ⟨m,e1,rfl,_⟩:=DataW.trod_int Tryz.underlying3 f1;obtain ⟨b,e2,rfl⟩:=DataW.trod_bool Tryz.underlying4 f2;obtain ⟨b',e3,rfl⟩:=DataW.trod_bool Tryz.underlying4 f3;cases e0;cases e1;cases e2;cases e3;exact ⟨by simp [NH,Ku],rfl⟩
theorem vY {n:Nat}:∀ (m:Nat) (cs:List Value) (rs:List (List Value)),cs.length=m*n→rs.length=m→(∀ i,i<m→rs[i]?=some ((cs.drop (i*n)).take n))→cs=rs.flatten
 | 0,cs,rs,hl,hr,_=>by
   obtain rfl:cs=[]:=by simpa using hl
   obtain rfl:rs=[]:=by simpa using hr
   rfl
 | m+1,cs,r::rs,hl,hr,h=>by
   have h0:=h 0 (by omega);simp at h0;subst h0;have:=vY (n:=n) m (cs.drop n) rs (by rw [List.length_drop,hl,Nat.add_mul];omega) (by simpa using hr) fun i hi=>by
    have:=h (i+1) (by omega);rw [List.getElem?_cons_succ] at this;rw [this,List.drop_drop,Nat.add_mul,Nat.one_mul,Nat.add_comm]
   rw [List.flatten_cons,← this,List.take_append_drop]
 | m+1,cs,[],_,hr,_=>by cases hr
set_option maxRecDepth 100000 in
theorem PS {H:Type} {enc:TypeId×Value→H} {w:World} {base:Nat} {sp:Nat→Bool} {held:Bool} {fuel:Nat} {cs:List Value} {p:List MemPlace}
  {ds:List (DataW H)} (h:DataW.trod enc Tryz.prog w base sp held fuel 347 cs=some (.agg ds,p)):cs=ds.flatMap NH∧cs.length=40:=by
 obtain ⟨xs,n,_,hx,hl,hlen,hf⟩:=DataW.trod_array Tryz.underlying347 h;have k:Tryz.prog.cellsOf 295=4:=by kernel_rfl
 have hl:cs.length=40:=hl.trans (by kernel_rfl);rw [k] at hf;cases hx;refine ⟨?_,hl⟩;rw [List.flatMap_def,List.map_map];refine vY (n:=4) 10 cs _ hl (by simpa using hlen) fun i hi=>?_
 have h1:=hf i hi;rw [List.getElem?_map];obtain ⟨y,hy⟩:∃ y,xs[i]?=some y:=⟨_,List.getElem?_eq_getElem (by omega)⟩
 rw [hy] at h1 ⊢;exact congrArg some (PY h1).1.symm
set_option maxRecDepth 100000 in
theorem Jp {H:Type} {enc:TypeId×Value→H} {w:World} {base:Nat} {sp:Nat→Bool} {held:Bool} {fuel:Nat} {cs:List Value} {p:List MemPlace}
  {ds:List (DataW H)} (h:DataW.trod enc Tryz.prog w base sp held fuel 372 cs=some (.agg ds,p)):cs=ds.flatMap Kv:=by
 obtain ⟨xs,n,_,hx,hl,hlen,hf⟩:=DataW.trod_array Tryz.underlying372 h;have k:Tryz.prog.cellsOf 9=1:=by kernel_rfl
 have hl:cs.length=3:=hl.trans (by kernel_rfl);rw [k] at hf;cases hx;rw [List.flatMap_def,List.map_map];refine vY (n:=1) 3 cs _ hl (by simpa using hlen) fun i hi=>?_
 have h1:=hf i hi;rw [List.getElem?_map];obtain ⟨y,hy⟩:∃ y,xs[i]?=some y:=⟨_,List.getElem?_eq_getElem (by omega)⟩
 rw [hy] at h1 ⊢;obtain ⟨s,e0,hy2,_⟩:=DataW.trod_string Tryz.underlying9 h1;rw [hy2];show some _=some _;congr 1;rw [e0];simp [Kv,Ku]
theorem kw_same:EZ=Abs.kwD.map dV:=by kernel_rfl
theorem Xf:mJ Rows.laid_gameplayer_lexer_words=Abs.wdD.map dV:=by kernel_rfl
set_option maxRecDepth 100000 in
theorem QW {w:World} (h:laidMetH Tryz.prog Rows.observeParsesRow.laid w):∀ k∈([1,2]:List Nat),∃ cur t fz,w.heap[k]?=some (.cells cur t fz)∧cur.toList=(Abs.glw k).map dV:=by
 have h:laidMet Tryz.prog Rows.observeParsesRow.laid w:=h;obtain ⟨ps,hv,_⟩:=h;intro k hk;simp only [List.mem_cons,List.not_mem_nil,or_false] at hk;rcases hk with rfl | rfl
 ·obtain ⟨g',t,cs,fuel,p,q1,q2,q3,q4⟩:=EY hv "gameplayer/check.keywords" Rows.laid_gameplayer_check_keywords (by unfold Rows.observeParsesRow;repeat (first | exact List.Mem.head _ | apply List.Mem.tail));have e1:Tryz.prog.globalNamed "gameplayer/check.keywords" = some 1:=by kernel_rfl
  have e2:(Tryz.prog.globals[1]?).map (·.type)=some 347:=by kernel_rfl
  obtain rfl:=Option.some.inj (e1.symm.trans q1);obtain rfl:=Option.some.inj (e2.symm.trans q2);obtain ⟨t',fz,hw⟩:=Bo q1 q3;have hcs:cs.toList=EZ:=(PS q4).1;exact ⟨_,_,_,hw,hcs.trans kw_same⟩
 ·obtain ⟨g',t,cs,fuel,p,q1,q2,q3,q4⟩:=EY hv "gameplayer/lexer.words" Rows.laid_gameplayer_lexer_words (by unfold Rows.observeParsesRow;repeat (first | exact List.Mem.head _ | apply List.Mem.tail));have e1:Tryz.prog.globalNamed "gameplayer/lexer.words" = some 2:=by kernel_rfl
  have e2:(Tryz.prog.globals[2]?).map (·.type)=some 372:=by kernel_rfl
  obtain rfl:=Option.some.inj (e1.symm.trans q1);obtain rfl:=Option.some.inj (e2.symm.trans q2);obtain ⟨t',fz,hw⟩:=Bo q1 q3;have hcs:cs.toList=mJ Rows.laid_gameplayer_lexer_words:=Jp q4;exact ⟨_,_,_,hw,hcs.trans Xf⟩
theorem ahy:([1,2]:List Nat).all (fun k=>Nat.beq ((Abs.glw k).map dV).length (Sim.cVs ((Abs.glw k).map dV)).length)=true:=by kernel_rfl
theorem Le {w:World} (hm:∃ m:Int,w.cell? ⟨0,0,none⟩=some (.int .i64 m)) (hg:∀ k∈([1,2]:List Nat),∃ cur t fz,w.heap[k]?=some (.cells cur t fz)∧cur.toList=(Abs.glw k).map dV) :
  Calls Tryz.prog 4 #[] w fun e w'=>e = .returned (.bool true)∧Below w.heap.size w w':=by
 have hl:∀ k∈([1,2]:List Nat),((Abs.glw k).map dV).length=(Sim.cVs ((Abs.glw k).map dV)).length:=fun k hk=>Nat.eq_of_beq_eq_true (List.all_eq_true.1 ahy k hk)
 refine Sim.FY (T:=T) (ng:=6) (gs:=[1,2]) (F:=dA_root) (cs:=fun k=>Sim.cVs ((Abs.glw k).map dV)) (us:=fun k=>(Abs.glw k).map dV) (vs:=[]) (YH ⟨w,hm⟩) (by kernel_rfl) (by decide) rfl rfl
  (fun g => .nil) (fun k hk=>?_) hl (fun k hk g i c u hc hu=>?_)
 ·obtain ⟨cur,t,fz,h1,h2⟩:=hg k hk;have h3:cur=((Abs.glw k).map dV).toArray:=by rw [← h2]
  subst h3;exact ⟨_,_,_,h1,by rw [← hl k hk];simp,fun i _=>by simp⟩
 ·rw [Sim.yw,hu] at hc;cases hc;refine ⟨Sim.JA _ _ _,?_⟩;obtain ⟨d,hd,rfl⟩:=List.mem_map.1 (List.mem_of_getElem? hu);exact agu d
end Go.Proofs.YtpmapognbdiahaaGreatDoor
