/- What the row's list says of belief.one, belief.zero, check.keywords and exhaust.open. -/
import Derived.Test.YthckjidmpbiccaaGreatDoorBelAAnd
import Derived.Test.YthckjidmpbiccaaGreatDoorCards
import Derived.Test.YthckjidmpbiccaaGreatDoorTie
import Derived.WalkKit
import Derived.ProofKit
import Derived.OpenShut
set_option linter.unusedVariables false
set_option linter.unusedSimpArgs false
set_option linter.all false
namespace Go.Proofs.YthckjidmpbiccaaGreatDoor
open Go Go.RowKit
def RD:Lit→Value
 | .bool b => .bool b
 | .int k n => .int k n
 | .string s => .string ⟨s.toArray⟩
 | .float k b => .float k b
 | .nil => .nilIface
def OT {H:Type} (d:DataW H):List Value:=match d with
 | .agg [.lit a,.lit b,.lit c,.lit e]=>[RD a,RD b,RD c,RD e]
 | _=>[]
def Gj:List Value:=match (Rows.laid_gameplayer_check_keywords:DataW Unit) with
 | .agg ds=>ds.flatMap OT
 | _=>[]
set_option maxRecDepth 100000 in
theorem Rh {H:Type} {enc:TypeId×Value→H} {w:World} {base:Nat} {sp:Nat→Bool} {held:Bool} {fuel:Nat} {cs:List Value} {x:DataW H×List MemPlace}
  (h:DataW.trod enc Tryz.prog w base sp held fuel 350 cs=some x):cs=OT x.1∧cs.length=4:=by
 obtain ⟨xs,n,_,rfl,hl,hlen,hf⟩:=DataW.trod_struct Tryz.underlying350 h
 have hl:cs.length=4:=hl.trans (by kernel_rfl)
 match xs,hlen,cs,hl with
 | [y0,y1,y2,y3],_,[c0,c1,c2,c3],_=>
   have f0:=hf 0 _ rfl
   have f1:=hf 1 _ rfl
   have f2:=hf 2 _ rfl
   have f3:=hf 3 _ rfl
   have k9:Tryz.prog.cellsOf 9=1:=by kernel_rfl
   have k3:Tryz.prog.cellsOf 3=1:=by kernel_rfl
   have k4:Tryz.prog.cellsOf 4=1:=by kernel_rfl
   simp only [k9,k3,k4,List.drop,List.take,List.getElem?_cons_zero,List.getElem?_cons_succ] at f0 f1 f2 f3
   obtain ⟨s,e0,rfl,_⟩:=DataW.trod_string Tryz.underlying9 f0
   obtain ⟨m,e1,rfl,_⟩:=DataW.trod_int Tryz.underlying3 f1
   obtain ⟨b,e2,rfl⟩:=DataW.trod_bool Tryz.underlying4 f2
   obtain ⟨b',e3,rfl⟩:=DataW.trod_bool Tryz.underlying4 f3
   cases e0;cases e1;cases e2;cases e3
   exact ⟨by simp [OT,RD],rfl⟩
theorem EH {n:Nat}:∀ (m:Nat) (cs:List Value) (rs:List (List Value)),cs.length=m*n→rs.length=m→(∀ i,i<m→rs[i]?=some ((cs.drop (i*n)).take n))→cs=rs.flatten
 | 0,cs,rs,hl,hr,_=>by
   obtain rfl:cs=[]:=by simpa using hl
   obtain rfl:rs=[]:=by simpa using hr
   rfl
 | m+1,cs,r::rs,hl,hr,h=>by
   have h0:=h 0 (by omega)
   simp at h0
   subst h0
   have:=EH (n:=n) m (cs.drop n) rs (by rw [List.length_drop,hl,Nat.add_mul];omega) (by simpa using hr) fun i hi=>by
    have:=h (i+1) (by omega)
    rw [List.getElem?_cons_succ] at this
    rw [this,List.drop_drop,Nat.add_mul,Nat.one_mul,Nat.add_comm]
   rw [List.flatten_cons,← this,List.take_append_drop]
 | m+1,cs,[],_,hr,_=>by cases hr
set_option maxRecDepth 100000 in
theorem QY {H:Type} {enc:TypeId×Value→H} {w:World} {base:Nat} {sp:Nat→Bool} {held:Bool} {fuel:Nat} {cs:List Value} {p:List MemPlace}
  {ds:List (DataW H)} (h:DataW.trod enc Tryz.prog w base sp held fuel 416 cs=some (.agg ds,p)):cs=ds.flatMap OT∧cs.length=40:=by
 obtain ⟨xs,n,_,hx,hl,hlen,hf⟩:=DataW.trod_array Tryz.underlying416 h
 have k:Tryz.prog.cellsOf 350=4:=by kernel_rfl
 have hl:cs.length=40:=hl.trans (by kernel_rfl)
 rw [k] at hf
 cases hx
 refine ⟨?_,hl⟩
 rw [List.flatMap_def,List.map_map]
 refine EH (n:=4) 10 cs _ hl (by simpa using hlen) fun i hi=>?_
 have h1:=hf i hi
 rw [List.getElem?_map]
 obtain ⟨y,hy⟩:∃ y,xs[i]?=some y:=⟨_,List.getElem?_eq_getElem (by omega)⟩
 rw [hy] at h1 ⊢
 exact congrArg some (Rh h1).1.symm
theorem kw_same:Gj=Abs.kwD.map dV:=by kernel_rfl
theorem kw_ok:Abs.kwD.all dOk=true:=by kernel_rfl
set_option maxRecDepth 100000 in
theorem gok {w:World} (h:laidMetH Tryz.prog Rows.decideDominatesRow.laid w):Abs.GOK (fun b=>b<w.heap.size) w:=by
 have h:laidMet Tryz.prog Rows.decideDominatesRow.laid w:=h
 obtain ⟨ps,hv,_⟩:=h
 intro g hg
 cases h1:Nat.beq g 0 with
 | true=>
   obtain rfl:=Nat.eq_of_beq_eq_true h1
   obtain ⟨g',t,cs,fuel,p,q1,q2,q3,q4⟩:=uS hv "gameplayer/belief.one" (.agg [.lit (.int .i64 1),.lit (.int .i64 1)]) (by unfold Rows.decideDominatesRow;repeat (first | exact List.Mem.head _ | apply List.Mem.tail))
   have e1:Tryz.prog.globalNamed "gameplayer/belief.one" = some 0:=by kernel_rfl
   have e2:(Tryz.prog.globals[0]?).map (·.type)=some 26:=by kernel_rfl
   obtain rfl:=Option.some.inj (e1.symm.trans q1)
   obtain rfl:=Option.some.inj (e2.symm.trans q2)
   obtain ⟨t',fz,hw⟩:=qj q1 q3
   exact jD hw (nS q4) (by decide)
 | false=>
 cases h2:Nat.beq g 1 with
 | true=>
   obtain rfl:=Nat.eq_of_beq_eq_true h2
   obtain ⟨g',t,cs,fuel,p,q1,q2,q3,q4⟩:=uS hv "gameplayer/belief.zero" (.agg [.lit (.int .i64 0),.lit (.int .i64 1)]) (by unfold Rows.decideDominatesRow;repeat (first | exact List.Mem.head _ | apply List.Mem.tail))
   have e1:Tryz.prog.globalNamed "gameplayer/belief.zero" = some 1:=by kernel_rfl
   have e2:(Tryz.prog.globals[1]?).map (·.type)=some 26:=by kernel_rfl
   obtain rfl:=Option.some.inj (e1.symm.trans q1)
   obtain rfl:=Option.some.inj (e2.symm.trans q2)
   obtain ⟨t',fz,hw⟩:=qj q1 q3
   exact jD hw (nS q4) (by decide)
 | false=>
 cases h3:Nat.beq g 3 with
 | true=>
   obtain rfl:=Nat.eq_of_beq_eq_true h3
   obtain ⟨g',t,cs,fuel,p,q1,q2,q3,q4⟩:=uS hv "gameplayer/check.keywords" Rows.laid_gameplayer_check_keywords (by unfold Rows.decideDominatesRow;repeat (first | exact List.Mem.head _ | apply List.Mem.tail))
   have e1:Tryz.prog.globalNamed "gameplayer/check.keywords" = some 3:=by kernel_rfl
   have e2:(Tryz.prog.globals[3]?).map (·.type)=some 416:=by kernel_rfl
   obtain rfl:=Option.some.inj (e1.symm.trans q1)
   obtain rfl:=Option.some.inj (e2.symm.trans q2)
   obtain ⟨t',fz,hw⟩:=qj q1 q3
   have hcs:cs.toList=Gj:=(QY q4).1
   exact jD hw (hcs.trans kw_same) kw_ok
 | false=>
 cases h4:Nat.beq g 4 with
 | true=>
   obtain rfl:=Nat.eq_of_beq_eq_true h4
   obtain ⟨g',t,cs,fuel,p,q1,q2,q3,q4⟩:=uS hv "gameplayer/exhaust.open" (.agg [.agg [.lit (.int .i64 0),.lit (.int .i64 1)],.agg [.lit (.int .i64 100),.lit (.int .i64 1)]]) (by unfold Rows.decideDominatesRow;repeat (first | exact List.Mem.head _ | apply List.Mem.tail))
   have e1:Tryz.prog.globalNamed "gameplayer/exhaust.open" = some 4:=by kernel_rfl
   have e2:(Tryz.prog.globals[4]?).map (·.type)=some 28:=by kernel_rfl
   obtain rfl:=Option.some.inj (e1.symm.trans q1)
   obtain rfl:=Option.some.inj (e2.symm.trans q2)
   obtain ⟨t',fz,hw⟩:=qj q1 q3
   exact jD hw (Ih q4) (by decide)
 | false=>exact absurd (by unfold Abs.gl;rw [h1,h2,h3,h4]) hg
end Go.Proofs.YthckjidmpbiccaaGreatDoor
