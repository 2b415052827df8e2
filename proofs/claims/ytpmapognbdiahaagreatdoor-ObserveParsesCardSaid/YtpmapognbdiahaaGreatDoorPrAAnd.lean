/- The closures that parser.read defers, called by a frame that panics: they recover a violation. -/
import Derived.Test.YtpmapognbdiahaaGreatDoorTnGAnd
import Derived.Test.YtpmapognbdiahaaGreatDoorPwAAnd
import Derived.Test.YtpmapognbdiahaaGreatDoorProg
import Derived.Shelf.Abstract
import Derived.Ground.NamesProg
import Derived.WalkKit
import Derived.Deep.RegionLaw
set_option linter.all false
namespace Go.Proofs
open Go Go.RowKit Go.Abs Go.Own
section
variable {P:Program} {Q:Exit→Act→List Frame→World→Prop} {a:Act} {cs:List Frame} {w w':World} {ops:Array Oper} {i:Nat} {rest:List Nat} {o:Oper}
theorem wH {c:Frame} {x:Value} {older:List PanicEntry} (ho:ops[i]?=some o) (hg:o.guard=none) (hr:(execOp a.eval o).run P w = .ok .recover w') (hu:c.mode = .panicking ({ v:=x,recovered:=false }::older))
  (h:wpOpsS P ops Q rest (a.put o.dst x) ({ c with mode := .panicking ({ v:=x,recovered:=true }::older) }::cs) w'):wpOpsS P ops Q (i::rest) a (c::cs) w:=by
 simp [wpOpsS,ho,Region.wanted,hg,hr,recoverD,hu];exact h
end
theorem Tryz.Ls (x:Value) (ρ:Operand→Value) (w:World) (d:Option Tmp) (t:TypeId) (p:String) (af:Array Edge) (h:ρ (.tmp 7) = .iface 226 x):(execOp ρ { dst:=d,op:=Op.typeAssert (Operand.tmp 7) 20 226 true,type:=t,pos:=p,after:=af,guard:=none }).run Tryz.prog w = .ok (.value (.tuple #[x,.bool true])) w:=by
 simp [execOp,Instr.typeAssert,go_sem,h]
structure Tryz.Named (ob:Nat) (w:World) (cs:Array Value) (T:TypeId) (at0 e0:Int):Prop where
 out:w.heap[ob]?=some (.cells cs T (0,0))
 at_:w.heap[ob+1]?=some (.cells #[.int .i64 at0] 3 (0,0))
 e:w.heap[ob+2]?=some (.cells #[.int .i64 e0] 24 (0,0))
section
variable {ob:Nat} {w:World} {cs:Array Value} {T:TypeId} {a e:Int} (h:Tryz.Named ob w cs T a e)
include h
theorem Tryz.Named.GV (a':Int):Tryz.Named ob (w.setCell ⟨ob+1,0,none⟩ (.int .i64 a')) cs T a' e:=⟨(aA _ _ _ (by simp)).trans h.out,bC 0 _ h.at_,(aA _ _ _ (by simp)).trans h.e⟩
theorem Tryz.Named.GU (e':Int):Tryz.Named ob (w.setCell ⟨ob+1+1,0,none⟩ (.int .i64 e')) cs T a e':=⟨(aA _ _ _ (by simp;omega)).trans h.out,(aA _ _ _ (by simp)).trans h.at_,bC 0 _ h.e⟩
theorem Tryz.Named.Ef (j:Nat) (v:Value):Tryz.Named ob (w.setCell ⟨ob,j,none⟩ v) (cs.setIfInBounds j v) T a e:=⟨bC j v h.out,(aA _ _ _ (by simp)).trans h.at_,(aA _ _ _ (by simp)).trans h.e⟩
theorem Tryz.Named.drew:Tryz.Named ob w.drew cs T a e:=⟨h.out,h.at_,h.e⟩
theorem Tryz.Named.keep {w':World} (hk:∀ k,k<ob+3→ob≤k→w'.heap[k]?=w.heap[k]?):Tryz.Named ob w' cs T a e:=⟨(hk _ (by omega) (by omega)).trans h.out,(hk _ (by omega) (by omega)).trans h.at_,(hk _ (by omega) (by omega)).trans h.e⟩
theorem Tryz.Named.cells:w.cell? ⟨ob+1,0,none⟩=some (.int .i64 a)∧w.frozen? ⟨ob+1,0,none⟩=false∧w.cell? ⟨ob+1+1,0,none⟩=some (.int .i64 e)∧w.frozen? ⟨ob+1+1,0,none⟩=false:=by
 have h1:=h.at_;have h2:w.heap[ob+1+1]?=_:=h.e;simp [World.cell?,World.frozen?,h1,h2]
end
set_option maxHeartbeats 1000000 in
set_option maxRecDepth 100000 in
theorem Tryz.Wq (ob:Nat) (x y:Value) (at0 e0 a1 e1:Int) (older:List PanicEntry) (w:World) (h:Tryz.Named ob w #[x,y] 42 at0 e0) :
  CallsD Tryz.prog 166 #[.pointer (some ⟨ob,0,none⟩),.pointer (some ⟨ob+1,0,none⟩),.pointer (some ⟨ob+2,0,none⟩)] (.panicking ({ v := .iface 226 (.agg #[.int .i64 a1,.int .i64 e1]),recovered:=false }::older)) w fun e u w'=>
   (∃ v,e = .returned v)∧u = .panicking ({ v := .iface 226 (.agg #[.int .i64 a1,.int .i64 e1]),recovered:=true }::older)∧Tryz.Named ob w' #[.string ⟨#[]⟩,.slice none 0 0] 42 a1 e1∧Below ob w w':=by
 obtain ⟨c0,c1,f0,f1⟩:=aC h.out;have c2:w.cell? ⟨ob+1,0,none⟩=some (.int .i64 at0):=by simp [World.cell?,h.at_]
 have f2:w.frozen? ⟨ob+1,0,none⟩=false:=by simp [World.frozen?,h.at_]
 have c3:w.cell? ⟨ob+2,0,none⟩=some (.int .i64 e0):=by simp [World.cell?,h.e]
 have f3:w.frozen? ⟨ob+2,0,none⟩=false:=by simp [World.frozen?,h.e]
 refine callsD_of_wpS Tryz.func166 rfl fun c₀ cs hu=>?_
 rw [Tryz.ntmps166];apply wpS_seq;apply wpS_region;rw [show List.range _=[0,1,2,3,4,5,6,7] from rfl];generalize hQ:Exit.thenS _ _=Q;generalize hO:(List.toArray _:Array Oper)=ops;have h0:=congrArg (fun x:Array Oper=>x[0]?) hO.symm;have h1:=congrArg (fun x:Array Oper=>x[1]?) hO.symm;have h2:=congrArg (fun x:Array Oper=>x[2]?) hO.symm;have h3:=congrArg (fun x:Array Oper=>x[3]?) hO.symm;have h4:=congrArg (fun x:Array Oper=>x[4]?) hO.symm;have h5:=congrArg (fun x:Array Oper=>x[5]?) hO.symm;have h6:=congrArg (fun x:Array Oper=>x[6]?) hO.symm;have h7:=congrArg (fun x:Array Oper=>x[7]?) hO.symm;simp only [List.getElem?_toArray,List.getElem?_cons_succ,List.getElem?_cons_zero] at h0 h1 h2 h3 h4 h5 h6 h7;clear hO;simp only [List.size_toArray,List.length_cons,List.length_nil,Nat.reduceAdd,Nat.reduceSub,Array.replicate_succ,Array.replicate_zero,List.push_toArray,List.append_toArray,List.nil_append,List.cons_append];refine wH h0 rfl (Tryz.xW _ _ _ _ _ _) hu ?_;simp [Act.put];refine aS h1 rfl (Tryz.Ls (.agg #[.int .i64 a1,.int .i64 e1]) _ _ _ _ _ _ (by simp [Act.eval])) ?_;simp [Act.put];refine aS h2 rfl (by simp [execOp,go_sem,Act.eval];first | rfl | exact ⟨rfl,rfl⟩) ?_;simp [Act.put];refine aS h3 rfl (by simp [execOp,go_sem,Act.eval];first | rfl | exact ⟨rfl,rfl⟩) ?_;simp [Act.put];refine aS h4 rfl (by simp [execOp,go_sem,Act.eval];first | rfl | exact ⟨rfl,rfl⟩) ?_;simp [Act.put];refine aS h5 rfl (by simp [execOp,go_sem,Act.eval];first | rfl | exact ⟨rfl,rfl⟩) ?_;simp [Act.put];refine kR h6 rfl (by simp [execOp,go_sem,Act.eval];first | rfl | exact ⟨rfl,rfl⟩) ?_;simp [Act.put];refine aS h7 rfl (by simp [execOp,go_sem,Act.eval];first | rfl | exact ⟨rfl,rfl⟩) ?_;simp [Act.put];show Q .normal _ _ _;subst hQ;apply wpS_seq;apply wpS_region;rw [show List.range _=[0] from rfl];generalize hQ:Exit.thenS _ _=Q;clear h0 h1 h2 h3 h4 h5 h6 h7;refine aS (o:={ dst:=some 11,op:=Op.move (Operand.tmp 4),type:=4,pos := "parser.go:155",after:=#[],guard:=none }) rfl rfl (by simp [execOp,go_sem,Act.eval];first | rfl | exact ⟨rfl,rfl⟩) ?_;simp [Act.put];show Q .normal _ _ _;subst hQ;refine wpS_cond (t:=true) (by simp [Act.eval]) ?_;simp only [if_true];refine wpS_of_wp ?_;clear hu ops;generalize FrameMode.panicking _=md;obtain ⟨W,hW⟩:∃ W,(w.alloc (.cells #[.int .i64 a1,.int .i64 e1] 226)).alloc (.cells #[.string ⟨#[]⟩,.slice none 0 0] 42)=W:=⟨_,rfl⟩
 have hB:Below w.heap.size w W:=by rw [← hW];exact ((Below.refl _ w).alloc (Nat.le_refl _) _).alloc (by simp) _
 have g0:=(hB.block ob (Array.getElem?_eq_some_iff.1 h.out).1).trans h.out;have g1:=(hB.block (ob+1) (Array.getElem?_eq_some_iff.1 h.at_).1).trans h.at_;have g2:=(hB.block (ob+2) (Array.getElem?_eq_some_iff.1 h.e).1).trans h.e;have hlt:=(Array.getElem?_eq_some_iff.1 h.e).1;clear c0 c1 f0 f1 c2 f2 c3 f3;obtain ⟨c0,c1,f0,f1⟩:=aC g0;have c2:W.cell? ⟨ob+1,0,none⟩=some (.int .i64 at0):=by simp [World.cell?,g1]
 have f2:W.frozen? ⟨ob+1,0,none⟩=false:=by simp [World.frozen?,g1]
 have c3:W.cell? ⟨ob+2,0,none⟩=some (.int .i64 e0):=by simp [World.cell?,g2]
 have f3:W.frozen? ⟨ob+2,0,none⟩=false:=by simp [World.frozen?,g2]
 have n1:ob≠w.heap.size:=by omega
 have n2:ob+1≠w.heap.size:=by omega
 have n3:ob+2≠w.heap.size:=by omega
 subst hW
 go_wp2
 go_region
 refine ⟨rfl,md,rfl,.tuple #[],by simp [results,Tryz.results166],⟨_,rfl⟩,rfl,⟨?_,?_,?_⟩,?_⟩
 ·have k0:=bC 0 (.string { data:=#[] }) g0;have k1:=bC 1 (.slice none 0 0) k0;exact (aA _ _ _ (by simp)).trans ((aA _ _ _ (by simp)).trans k1)
 ·refine (aA _ _ _ (by simp)).trans (bC 0 (.int .i64 a1) ((aA _ _ _ (by simp)).trans ((aA _ _ _ (by simp)).trans g1)))
 ·exact bC 0 (.int .i64 e1) ((aA _ _ _ (by simp)).trans ((aA _ _ _ (by simp)).trans ((aA _ _ _ (by simp)).trans g2)))
 ·have hB':Below ob w _:=hB.mono (show ob≤w.heap.size by omega);exact (((hB'.setCell (p:=⟨ob,0,none⟩) (Nat.le_refl _) _).setCell (p:=⟨ob,1,none⟩) (Nat.le_refl _) _).setCell (p:=⟨ob+1,0,none⟩) (Nat.le_succ _) _).setCell (p:=⟨ob+2,0,none⟩) (by simp) _ |>.drew
set_option maxHeartbeats 1000000 in
set_option maxRecDepth 100000 in
theorem Tryz.Wp (ob:Nat) (x:Value) (at0 e0 a1 e1:Int) (older:List PanicEntry) (w:World) (h:Tryz.Named ob w #[x] 40 at0 e0) :
  CallsD Tryz.prog 170 #[.pointer (some ⟨ob,0,none⟩),.pointer (some ⟨ob+1,0,none⟩),.pointer (some ⟨ob+2,0,none⟩)] (.panicking ({ v := .iface 226 (.agg #[.int .i64 a1,.int .i64 e1]),recovered:=false }::older)) w fun e u w'=>
   (∃ v,e = .returned v)∧u = .panicking ({ v := .iface 226 (.agg #[.int .i64 a1,.int .i64 e1]),recovered:=true }::older)∧Tryz.Named ob w' #[.slice none 0 0] 40 a1 e1∧Below ob w w':=by
 have c0:w.cell? ⟨ob,0,none⟩=some x:=by simp [World.cell?,h.out]
 have f0:w.frozen? ⟨ob,0,none⟩=false:=by simp [World.frozen?,h.out]
 have c2:w.cell? ⟨ob+1,0,none⟩=some (.int .i64 at0):=by simp [World.cell?,h.at_]
 have f2:w.frozen? ⟨ob+1,0,none⟩=false:=by simp [World.frozen?,h.at_]
 have c3:w.cell? ⟨ob+2,0,none⟩=some (.int .i64 e0):=by simp [World.cell?,h.e]
 have f3:w.frozen? ⟨ob+2,0,none⟩=false:=by simp [World.frozen?,h.e]
 refine callsD_of_wpS Tryz.func170 rfl fun c₀ cs hu=>?_
 rw [Tryz.ntmps170];apply wpS_seq;apply wpS_region;rw [show List.range _=[0,1,2,3,4,5,6,7] from rfl];generalize hQ:Exit.thenS _ _=Q;generalize hO:(List.toArray _:Array Oper)=ops;have h0:=congrArg (fun x:Array Oper=>x[0]?) hO.symm;have h1:=congrArg (fun x:Array Oper=>x[1]?) hO.symm;have h2:=congrArg (fun x:Array Oper=>x[2]?) hO.symm;have h3:=congrArg (fun x:Array Oper=>x[3]?) hO.symm;have h4:=congrArg (fun x:Array Oper=>x[4]?) hO.symm;have h5:=congrArg (fun x:Array Oper=>x[5]?) hO.symm;have h6:=congrArg (fun x:Array Oper=>x[6]?) hO.symm;have h7:=congrArg (fun x:Array Oper=>x[7]?) hO.symm;simp only [List.getElem?_toArray,List.getElem?_cons_succ,List.getElem?_cons_zero] at h0 h1 h2 h3 h4 h5 h6 h7;clear hO;simp only [List.size_toArray,List.length_cons,List.length_nil,Nat.reduceAdd,Nat.reduceSub,Array.replicate_succ,Array.replicate_zero,List.push_toArray,List.append_toArray,List.nil_append,List.cons_append];refine wH h0 rfl (Tryz.xW _ _ _ _ _ _) hu ?_;simp [Act.put];refine aS h1 rfl (Tryz.Ls (.agg #[.int .i64 a1,.int .i64 e1]) _ _ _ _ _ _ (by simp [Act.eval])) ?_;simp [Act.put];refine aS h2 rfl (by simp [execOp,go_sem,Act.eval];first | rfl | exact ⟨rfl,rfl⟩) ?_;simp [Act.put];refine aS h3 rfl (by simp [execOp,go_sem,Act.eval];first | rfl | exact ⟨rfl,rfl⟩) ?_;simp [Act.put];refine aS h4 rfl (by simp [execOp,go_sem,Act.eval];first | rfl | exact ⟨rfl,rfl⟩) ?_;simp [Act.put];refine aS h5 rfl (by simp [execOp,go_sem,Act.eval];first | rfl | exact ⟨rfl,rfl⟩) ?_;simp [Act.put];refine kR h6 rfl (by simp [execOp,go_sem,Act.eval];first | rfl | exact ⟨rfl,rfl⟩) ?_;simp [Act.put];refine aS h7 rfl (by simp [execOp,go_sem,Act.eval];first | rfl | exact ⟨rfl,rfl⟩) ?_;simp [Act.put];show Q .normal _ _ _;subst hQ;apply wpS_seq;apply wpS_region;rw [show List.range _=[0] from rfl];generalize hQ:Exit.thenS _ _=Q;clear h0 h1 h2 h3 h4 h5 h6 h7;refine aS (o:={ dst:=some 11,op:=Op.move (Operand.tmp 4),type:=4,pos := "parser.go:155",after:=#[],guard:=none }) rfl rfl (by simp [execOp,go_sem,Act.eval];first | rfl | exact ⟨rfl,rfl⟩) ?_;simp [Act.put];show Q .normal _ _ _;subst hQ;refine wpS_cond (t:=true) (by simp [Act.eval]) ?_;simp only [if_true];refine wpS_of_wp ?_;clear hu ops;generalize FrameMode.panicking _=md;obtain ⟨W,hW⟩:∃ W,w.alloc (.cells #[.int .i64 a1,.int .i64 e1] 226)=W:=⟨_,rfl⟩
 have hB:Below w.heap.size w W:=by rw [← hW];exact (Below.refl _ w).alloc (Nat.le_refl _) _
 have g0:=(hB.block ob (Array.getElem?_eq_some_iff.1 h.out).1).trans h.out;have g1:=(hB.block (ob+1) (Array.getElem?_eq_some_iff.1 h.at_).1).trans h.at_;have g2:=(hB.block (ob+2) (Array.getElem?_eq_some_iff.1 h.e).1).trans h.e;have hlt:=(Array.getElem?_eq_some_iff.1 h.e).1;clear c0 f0 c2 f2 c3 f3;have c0:W.cell? ⟨ob,0,none⟩=some x:=by simp [World.cell?,g0]
 have f0:W.frozen? ⟨ob,0,none⟩=false:=by simp [World.frozen?,g0]
 have c2:W.cell? ⟨ob+1,0,none⟩=some (.int .i64 at0):=by simp [World.cell?,g1]
 have f2:W.frozen? ⟨ob+1,0,none⟩=false:=by simp [World.frozen?,g1]
 have c3:W.cell? ⟨ob+2,0,none⟩=some (.int .i64 e0):=by simp [World.cell?,g2]
 have f3:W.frozen? ⟨ob+2,0,none⟩=false:=by simp [World.frozen?,g2]
 have n1:ob≠w.heap.size:=by omega
 have n2:ob+1≠w.heap.size:=by omega
 have n3:ob+2≠w.heap.size:=by omega
 subst hW
 go_wp2
 go_region
 refine ⟨rfl,md,rfl,.tuple #[],by simp [results,Tryz.results170],⟨_,rfl⟩,rfl,⟨?_,?_,?_⟩,?_⟩
 ·exact (aA _ _ _ (by simp)).trans ((aA _ _ _ (by simp)).trans (bC 0 (.slice none 0 0) g0))
 ·refine (aA _ _ _ (by simp)).trans (bC 0 (.int .i64 a1) ((aA _ _ _ (by simp)).trans g1))
 ·exact bC 0 (.int .i64 e1) ((aA _ _ _ (by simp)).trans ((aA _ _ _ (by simp)).trans g2))
 ·have hB':Below ob w _:=hB.mono (show ob≤w.heap.size by omega);exact ((hB'.setCell (p:=⟨ob,0,none⟩) (Nat.le_refl _) _).setCell (p:=⟨ob+1,0,none⟩) (Nat.le_succ _) _).setCell (p:=⟨ob+2,0,none⟩) (by simp) _ |>.drew
end Go.Proofs
namespace Go.Proofs
open Go.RowKit Go.Shelf Go.Abs Go.Own
structure Tryz.Rd (rb tb o cap:Nat) (l:List Tk) (w:World) (i:Nat):Prop where
 cell:w.heap[rb]?=some (.cells #[.slice (some ⟨tb,o,none⟩) l.length cap,.int .i64 i] 229 (0,0))
 toks:Q5 w tb o l
 lt:tb<w.heap.size
 ne:tb≠rb
 len:l.length≤1000000
 cap:l.length≤cap∧cap≤maxLen
theorem Tryz.Rd.keep {rb tb o cap:Nat} {l:List Tk} {w w':World} {i B:Nat} (h:Tryz.Rd rb tb o cap l w i) (hk:Below B w w') (hr:rb<B) (ht:tb<B):Tryz.Rd rb tb o cap l w' i:=
 ⟨(hk.block rb hr).trans h.cell,h.toks.keep (hk.block tb ht),Nat.lt_of_lt_of_le h.lt hk.size,h.ne,h.len,h.cap⟩
theorem Tryz.Rd.at1 {rb tb o cap:Nat} {l:List Tk} {w:World} {i:Nat} (h:Tryz.Rd rb tb o cap l w i):w.cell? ⟨rb,1,none⟩=some (.int .i64 i):=by simp [World.cell?,h.cell]
theorem Tryz.Rd.fz1 {rb tb o cap:Nat} {l:List Tk} {w:World} {i:Nat} (h:Tryz.Rd rb tb o cap l w i):w.frozen? ⟨rb,1,none⟩=false:=by simp [World.frozen?,h.cell]
theorem Tryz.Rd.step {rb tb o cap:Nat} {l:List Tk} {w:World} {i:Nat} (h:Tryz.Rd rb tb o cap l w i):Tryz.Rd rb tb o cap l (w.setCell ⟨rb,1,none⟩ (.int .i64 (i+1))) (i+1):=by
 refine ⟨?_,h.toks.keep ?_,by simpa [World.setCell] using h.lt,h.ne,h.len,h.cap⟩
 ·simp [World.setCell,Array.getElem?_modify,h.cell]
 ·simp only [World.setCell,Array.getElem?_modify];rw [if_neg (fun e=>h.ne e.symm)]
theorem Tryz.Rd.put {rb tb o cap:Nat} {l:List Tk} {w:World} {i:Nat} (h:Tryz.Rd rb tb o cap l w i) (p:Addr) (v:Value) (h1:rb≠p.block) (h2:tb≠p.block):Tryz.Rd rb tb o cap l (w.setCell p v) i:=
 ⟨(aA w p v h1).trans h.cell,h.toks.keep (aA w p v h2),by simpa [World.setCell] using h.lt,h.ne,h.len,h.cap⟩
theorem Tryz.Rd.drew {rb tb o cap:Nat} {l:List Tk} {w:World} {i:Nat} (h:Tryz.Rd rb tb o cap l w i):Tryz.Rd rb tb o cap l w.drew i:=⟨h.cell,fun i hi=>h.toks i hi,h.lt,h.ne,h.len,h.cap⟩
def posOf (rb:Nat) (w:World):Nat:=match w.cell? ⟨rb,1,none⟩ with | some (.int _ n)=>n.toNat | _=>0
theorem Tryz.Rd.pos {rb tb o cap:Nat} {l:List Tk} {w:World} {i:Nat} (h:Tryz.Rd rb tb o cap l w i):posOf rb w=i:=by rw [posOf,h.at1];rfl
theorem Tryz.Rd.fA {rb tb o cap:Nat} {l:List Tk} {w:World} {i:Nat} (h:Tryz.Rd rb tb o cap l w i):rb<w.heap.size:=(Array.getElem?_eq_some_iff.1 h.cell).1
set_option maxHeartbeats 1000000 in
set_option maxRecDepth 100000 in
theorem Tryz.oP {rb tb o cap:Nat} {l:List Tk} {w:World} {i:Nat} (h:Tryz.Rd rb tb o cap l w i) (hi:i<l.length) :
  Calls Tryz.prog 167 #[.pointer (some ⟨rb,0,none⟩)] w fun e w'=>e = .returned (.agg #[.int .i64 l[i].1,.string ⟨l[i].2.1.toArray⟩,.int .i64 l[i].2.2])∧Below w.heap.size w w':=by
 obtain ⟨W,hW⟩:∃ W,w.alloc (.cells #[.int .i64 0,.string { data:=#[] },.int .i64 0] 231)=W:=⟨_,rfl⟩
 have hB:Below w.heap.size w W:=by rw [← hW];exact (Below.refl _ w).alloc (Nat.le_refl _) _
 have hx:=h.keep hB h.fA h.lt;obtain ⟨c0,c1,c2,_⟩:=hx.toks i hi;have d0:W.cell? ⟨rb,0,none⟩=some (.slice (some ⟨tb,o,none⟩) l.length cap):=by simp [World.cell?,hx.cell]
 have d1:W.cell? ⟨rb,1,none⟩=some (.int .i64 i):=by simp [World.cell?,hx.cell]
 have y:W.heap[w.heap.size]?=some (.cells #[.int .i64 0,.string { data:=#[] },.int .i64 0] 231 (0,0)):=by rw [← hW];exact heap_alloc_new w _
 have hl:=h.len;have hc:=h.cap;simp only [maxLen] at hc
 go_enter Tryz.func167,Tryz.ntmps167
 subst hW;clear y
 go_wp2
 go_region
 go_wp2
 refine bodyPost_ret (v := .agg #[.int .i64 l[i].1,.string ⟨l[i].2.1.toArray⟩,.int .i64 l[i].2.2]) (by simp [results,Tryz.results167,go_sem]) rfl ?_;exact ⟨rfl,((Below.refl _ w).alloc (Nat.le_refl _) _).drew⟩
theorem Tryz.nX (a b c:Value) (w:World):(Instr.field 231 (.agg #[a,b,c]) 0).run Tryz.prog w = .ok a w:=by kernel_rfl
theorem Tryz.Rn (a b c:Value) (w:World):(Instr.field 231 (.agg #[a,b,c]) 1).run Tryz.prog w = .ok b w:=by kernel_rfl
theorem Tryz.agX (a b c:Value) (w:World):(Instr.field 231 (.agg #[a,b,c]) 2).run Tryz.prog w = .ok c w:=by kernel_rfl
def Tryz.WI (ch:List PanicEntry):Prop:=∃ a e:Int,e≠0∧ch=[{ v := .iface 226 (.agg #[.int .i64 a,.int .i64 e]),recovered:=false }]
section
variable {rb tb o cap:Nat} {l:List Tk} {w:World} {i:Nat} (hR:Tryz.Rd rb tb o cap l w i) (hi:i<l.length)
include hR hi
set_option maxHeartbeats 1000000 in
set_option maxRecDepth 100000 in
theorem Tryz.Cj (x:Int) (hx:x≠0):Calls Tryz.prog 168 #[.pointer (some ⟨rb,0,none⟩),.int .i64 x] w fun e w'=>(∃ ch,e = .panicked ch∧Tryz.WI ch)∧Below w.heap.size w w':=by
 have cT:=Tryz.oP hR hi;generalize l[i].1=k at cT;generalize l[i].2.1=s at cT;generalize l[i].2.2=n at cT
 go_enter Tryz.func168,Tryz.ntmps168
 go_wp2_with (first | (go_at_call 167;refine cT.mono ?_;rintro e w1 ⟨rfl,hb1⟩) | refine bP _ _ _ _ (Tryz.agX _ _ _) rfl _ rfl rfl ?_)
 exact ⟨rfl,⟨_,rfl,n,x,hx,rfl⟩,hb1⟩
set_option maxHeartbeats 1000000 in
set_option maxRecDepth 100000 in
theorem Tryz.pIs (s:Str):Calls Tryz.prog 249 #[.pointer (some ⟨rb,0,none⟩),.string ⟨s.toArray⟩] w fun e w'=>e = .returned (.bool (cZ s (l.drop i)))∧Below w.heap.size w w':=by
 have cT:=Tryz.oP hR hi;rw [vT hi];generalize l[i].1=k at cT;generalize l[i].2.1=t at cT;generalize l[i].2.2=n at cT
 go_enter Tryz.func249,Tryz.ntmps249
 go_wp2_with (first | (go_at_call 167;refine cT.mono ?_;rintro e w1 ⟨rfl,hb1⟩) | refine bP _ _ _ _ (Tryz.nX _ _ _) rfl _ rfl rfl ?_ | refine bP _ _ _ _ (Tryz.Rn _ _ _) rfl _ rfl rfl ?_)
 all_goals go_ret
 all_goals refine ⟨?_,hb1.alloc hb1.size _⟩
 ·obtain rfl:k=4:=by omega
  rfl
 ·obtain rfl:k=5:=by omega
  rfl
 ·rw [show (k==4)=false from by simp;omega,show (k==5)=false from by simp;omega];rfl
set_option maxHeartbeats 1000000 in
set_option maxRecDepth 100000 in
theorem Tryz.MH:Calls Tryz.prog 247 #[.pointer (some ⟨rb,0,none⟩)] w fun e w'=>e = .returned (.bool (dZ (l.drop i)))∧Below w.heap.size w w':=by
 have cT:=Tryz.oP hR hi;rw [pz hi];generalize l[i].1=k at cT;generalize l[i].2.1=t at cT;generalize l[i].2.2=n at cT
 go_enter Tryz.func247,Tryz.ntmps247
 go_wp2_with (first | (go_at_call 167;refine cT.mono ?_;rintro e w1 ⟨rfl,hb1⟩) | refine bP _ _ _ _ (Tryz.nX _ _ _) rfl _ rfl rfl ?_)
 all_goals go_ret
 all_goals refine ⟨?_,hb1⟩
 ·obtain rfl:k=1:=by omega
  rfl
 ·obtain rfl:k=2:=by omega
  rfl
 ·by_cases h3:k=3
  ·subst h3;rfl
  ·rw [show (k==1)=false from by simp;omega,show (k==2)=false from by simp;omega,show (k==3)=false from by simpa using h3];show Ending.returned (.bool ((k:Int)==1||(k:Int)==2||(k:Int)==3))=_;rw [show ((k:Int)==1)=false from by simp;omega,show ((k:Int)==2)=false from by simp;omega,show ((k:Int)==3)=false from by simp;omega];rfl
set_option maxHeartbeats 1000000 in
set_option maxRecDepth 100000 in
theorem Tryz.nK (s:Str):Calls Tryz.prog 171 #[.pointer (some ⟨rb,0,none⟩),.string ⟨s.toArray⟩] w fun e w'=>e = .returned (.bool (cZ s (l.drop i)))∧Tryz.Rd rb tb o cap l w' (if cZ s (l.drop i)=true then i+1 else i)∧Kp w.heap.size rb w w':=by
 have cT:=Tryz.pIs hR hi s;have hr:=hR.fA;have ht:=hR.lt;have hl:=hR.len;have hne:=hR.ne;generalize cZ s (l.drop i)=b at cT;cases b with
 | false=>
   go_enter Tryz.func171,Tryz.ntmps171
   go_wp2_with (go_at_call 249;refine cT.mono ?_;rintro e w1 ⟨rfl,hb1⟩)
   go_ret
   exact ⟨rfl,hR.keep hb1 hr ht,.of hb1⟩
 | true=>
   go_enter Tryz.func171,Tryz.ntmps171
   go_wp2_with (go_at_call 249;refine cT.mono ?_;rintro e w1 ⟨rfl,hb1⟩;have hx:=hR.keep hb1 hr ht;have d1:=hx.at1;have f1:=hx.fz1)
   go_ret
   exact ⟨rfl,hx.step,Kp.setCell (p:=⟨rb,1,none⟩) (Kp.of hb1) (.inl rfl) _⟩
set_option maxHeartbeats 1000000 in
set_option maxRecDepth 100000 in
theorem Tryz.Xy (s:Str):Calls Tryz.prog 248 #[.pointer (some ⟨rb,0,none⟩),.string ⟨s.toArray⟩] w fun e w'=>
  (cZ s (l.drop i)=true∧e = .returned (.tuple #[])∧Tryz.Rd rb tb o cap l w' (i+1)∧Kp w.heap.size rb w w')∨(cZ s (l.drop i)=false∧(∃ ch,e = .panicked ch∧Tryz.WI ch)∧Kp w.heap.size rb w w'):=by
 have cT:=Tryz.nK hR hi s;have hr:=hR.fA;have ht:=hR.lt;generalize cZ s (l.drop i)=b at cT;cases b with
 | false=>
   go_enter Tryz.func248,Tryz.ntmps248
   go_wp2_with (first
    | (go_at_call 171;refine cT.mono ?_;rintro e w1 ⟨rfl,h1,h2⟩)
    | (go_at_call 168;refine (Tryz.Cj h1 hi 1 (by decide)).mono ?_;rintro e w2 ⟨⟨ch,rfl,hv⟩,h3⟩))
   exact ⟨rfl,.inr ⟨trivial,⟨ch,rfl,hv⟩,h2.trans (Kp.of (h3.mono h2.size))⟩⟩
 | true=>
   go_enter Tryz.func248,Tryz.ntmps248
   go_wp2_with (go_at_call 171;refine cT.mono ?_;rintro e w1 ⟨rfl,h1,h2⟩)
   refine bodyPost_end (results_none rfl _ _ _) rfl ?_;exact .inl ⟨trivial,rfl,h1,h2⟩
end
end Go.Proofs
namespace Go.Proofs
open Go.RowKit Go.Shelf Go.Abs Go.Own Go.Proofs.YtpmapognbdiahaaGreatDoor
def Tryz.Out {α:Type} (rb tb o cap:Nat) (l:List Tk) (w:World) (i:Nat) (en:α→D) (res:Option (α×List Tk)) (e:Ending) (w':World):Prop:=
 (∃ val x j,e = .returned val∧res=some (x,l.drop j)∧i<j∧j<l.length∧Tryz.Rd rb tb o cap l w' j∧Kp w.heap.size rb w w'∧RdD (fun b=>w.heap.size≤b∧b<w'.heap.size) w' val (en x)) ∨
 (res=none∧(∃ ch,e = .panicked ch∧Tryz.WI ch)∧Kp w.heap.size rb w w')
theorem Tryz.termInfo0:(Tryz.prog.info? 42).map (fun i=>(i.zero,i.size,i.bytes))=some (some (.agg #[.string ⟨#[]⟩,.slice none 0 0]),2,40):=by kernel_rfl
theorem Tryz.termInfo:qB Tryz.prog 40 42 2:=by
 obtain ⟨i0,hi,hz0,hz1,hz2⟩:=info_parts Tryz.termInfo0;exact ⟨Tryz.underlying40,by decide,i0,_,hi,hz0,hz1,by omega,rfl⟩
section
variable {rb tb o cap:Nat} {l:List Tk} {w:World} {i v:Nat} (hR:Tryz.Rd rb tb o cap l w i) (he:pI l) (hi:i<l.length)
include hR he hi
set_option maxHeartbeats 600000 in
set_option maxRecDepth 100000 in
theorem Tryz.Qj (hk:l[i].1=1) (hv:v≤4)
  (ih:∀ j (w1:World),i<j→j<l.length→Tryz.Rd rb tb o cap l w1 j→Calls Tryz.prog 102 #[.pointer (some ⟨rb,0,none⟩),.int .i64 (v+1)] w1 (Tryz.Out rb tb o cap l w1 j enT (pT l (v+1) j))) :
  Calls Tryz.prog 169 #[.pointer (some ⟨rb,0,none⟩),.int .i64 v] w (Tryz.Out rb tb o cap l w i enT (pT l v i)):=by
 have hr:=hR.fA;have ht:=hR.lt;have hbeg:dZ (l.drop i)=true:=by rw [pz hi,hk];rfl
 have h1:=Ar he hi hbeg
 replace ih:=hid ih
 have hl:=hR.len;obtain ⟨nm,hnm⟩:∃ nm,l[i].2.1=nm:=⟨_,rfl⟩
 obtain ⟨W0,hW0⟩:∃ W,w.alloc (.cells #[.string ⟨#[]⟩,.slice none 0 0] 42)=W:=⟨_,rfl⟩
 have hs0:W0.heap.size=w.heap.size+1:=by rw [← hW0];simp
 have hB0:Below w.heap.size w W0:=by rw [← hW0];exact (Below.refl _ w).alloc (Nat.le_refl _) _
 have y0:W0.heap[w.heap.size]?=some (.cells #[.string ⟨#[]⟩,.slice none 0 0] 42 (0,0)):=by rw [← hW0];exact heap_alloc_new w _
 have hR0:=hR.keep hB0 hr ht;have cT:=Tryz.oP hR0 hi;rw [hnm] at cT;by_cases hp:cZ [40] (l.drop (i+1))=true
 ·have h2:=iV he h1 hp
  go_enter Tryz.func169,Tryz.ntmps169
  go_wp2_with (first
   | (go_at_call 167;refine cT.mono ?_;rintro e w1 ⟨rfl,hb1⟩;obtain ⟨W2,hW2⟩:∃ W,w1.alloc (.cells #[.string ⟨nm.toArray⟩,.slice none 0 0] 42)=W:=⟨_,rfl⟩;have hs1:=hb1.size;have hB2:Below W0.heap.size W0 W2:=(by rw [← hW2];exact hb1.alloc hs1 _);have hR2:=hR0.keep hB2 (by omega) (by omega);have d1:=hR2.at1;have f1:=hR2.fz1;have hR3:=hR2.step;have hK3:Kp W0.heap.size rb W0 (W2.setCell ⟨rb,1,none⟩ (.int .i64 ((i:Int)+1))):=Kp.setCell (p:=⟨rb,1,none⟩) (Kp.of hB2) (.inl rfl) _;have y3:(W2.setCell ⟨rb,1,none⟩ (.int .i64 ((i:Int)+1))).heap[w1.heap.size]?=some (.cells #[.string ⟨nm.toArray⟩,.slice none 0 0] 42 (0,0)):=(aA _ _ _ (by simp;omega)).trans (by rw [← hW2];exact heap_alloc_new w1 _);have hs3:w1.heap.size<(W2.setCell ⟨rb,1,none⟩ (.int .i64 ((i:Int)+1))).heap.size:=(Array.getElem?_eq_some_iff.1 y3).1;subst hW2)
   | refine bP _ _ _ _ (Tryz.Rn _ _ _) rfl _ rfl rfl ?_
   | (go_at_call 171;refine (Tryz.nK hR3 h1 [40]).mono ?_;rintro e w4 ⟨rfl,hR4,hK4⟩;rw [hp] at hR4 ⊢;refine Hid.out ?_))
  have x4:=(hK4.block w.heap.size (by omega) (by omega)).trans ((hK3.block w.heap.size (by omega) (by omega)).trans y0);have y4:=(hK4.block w1.heap.size (by omega) (by omega)).trans y3;have hK:Kp w.heap.size rb w w4:=((Kp.of hB0).trans (hK3.mono (by omega))).trans (hK4.mono (by omega));have hz4:=(Array.getElem?_eq_some_iff.1 y4).1
  replace hR4:Tryz.Rd rb tb o cap l w4 (i+2):=hR4
  replace hK:=hid hK
  replace hR4:=hid hR4
  replace hR:=hid hR
  have hRow:=hid (bV.nil (B:=w1.heap.size+1) (T:=42) (sz:=2) (w:=w4));obtain ⟨rs,hrs⟩:∃ rs,w.heap.size=rs:=⟨_,rfl⟩
  obtain ⟨ob,hob⟩:∃ ob,w1.heap.size=ob:=⟨_,rfl⟩
  rw [hrs] at x4 ⊢;rw [hob] at y4 hRow ⊢;refine hid ?_;clear hR0 hR2 cT hK3 hK4 y0 y3
  go_wp2_with fail
  go_loopw [] (fun wr=>∃ (acc:List Tm) (j:Nat) (va:Value),j<l.length∧i<j∧acc.length≤j∧pL l v [] (i+2)=pL l v acc j∧Hid (Tryz.Rd rb tb o cap l wr j)∧Hid (Kp w.heap.size rb w wr)∧wr.heap[rs]?=some (.cells #[.string ⟨#[]⟩,.slice none 0 0] 42 (0,0))∧wr.heap[ob]?=some (.cells #[.string ⟨nm.toArray⟩,va] 42 (0,0))∧Hid (bV (ob+1) 42 2 wr va (acc.map enT))∧ob<wr.heap.size) (fun wr=>l.length-posOf rb wr)
  case atStart=>exact ⟨[],i+2,_,h2,by omega,Nat.zero_le _,rfl,hR4,hK,x4,y4,hRow,by omega⟩
  case round=>
   obtain ⟨acc,j,va,hj,hij,hacc,hpl,HR,HK,hx,hy,HRow,hz⟩:=hrel;have hpT:=Ez hi hbeg (Nat.not_lt.2 hv) hk hp h2;rw [hpl] at hpT
   replace hpT:=hid hpT
   obtain ⟨ar,cpr,rfl⟩:=HRow.out.shape;have hpos:=hid HR.out.pos;rw [List.length_map] at hy HRow;have hob1:ob≠rb∧ob≠tb∧w.heap.size<ob:=(by omega);clear hW0 hB0 hb1 hB2 d1 f1 hR3 hs3 x4 y4 hRow hK hR4 hob;by_cases h44:acc.length=4∧dZ (l.drop j)=true
   ·obtain ⟨h4,hb4⟩:=h44;obtain ⟨b0,b1,b2,b3⟩:=aC hy;rw [h4] at b1
    go_wp2_with (first
     | (go_at_call 247;refine (Tryz.MH HR.out hj).mono ?_;rintro e w5 ⟨rfl,hb5⟩;rw [hb4])
     | (go_at_call 168;refine (Tryz.Cj (HR.out.keep hb5 HR.out.fA HR.out.lt) hj 5 (by decide)).mono ?_;rintro e w6 ⟨⟨ch,rfl,hv⟩,h6⟩))
    exact ⟨rfl,.inr ⟨by rw [hpT.out,MC h4 hb4],⟨ch,rfl,hv⟩,HK.out.trans (Kp.of ((hb5.trans (h6.mono hb5.size)).mono HK.out.size))⟩⟩
   ·by_cases h4:acc.length=4
    case' pos=>
     have hb4:dZ (l.drop j)=false:=by
      cases hb:dZ (l.drop j)
      ·rfl
      ·exact absurd ⟨h4,hb⟩ h44
     obtain ⟨b0,b1,b2,b3⟩:=aC hy;rw [h4] at b1
     go_wp2_with (go_at_call 247;refine (Tryz.MH HR.out hj).mono ?_;rintro e w5 ⟨rfl,hb5⟩;rw [hb4])
    case' neg=>
     obtain ⟨b0,b1,b2,b3⟩:=aC hy;have h40:((acc.length:Int)==4)=false:=by simp;omega
     go_wp2_with fail
     obtain ⟨w5,hw5⟩:∃ w5,wr=w5:=⟨_,rfl⟩
     have hb5:Below wr.heap.size wr w5:=hw5 ▸ Below.refl _ _;rw [hw5];clear hw5
    all_goals
     replace h4:=hid h4
     have HR5:=hid (HR.out.keep hb5 HR.out.fA HR.out.lt);have HK5:=hid (HK.out.trans (Kp.of (hb5.mono HK.out.size)));have hx5:=(hb5.block rs (by omega)).trans hx;have hy5:=(hb5.block ob hz).trans hy;have hz5:=hb5.size;have HRow5:=hid (HRow.out.keep hb5.size (fun b _ hb=>hb5.block b hb));clear b0 b1 b2 b3;obtain ⟨b0,b1,b2,b3⟩:=aC hy5;clear hx hy HR HK HRow;have hwr:IntKind.i64.wrap ((v:Int)+1)=(v:Int)+1:=by rw [IntKind.wrap_i64];omega
     have cT:Hid (Calls Tryz.prog 102 #[.pointer (some ⟨rb,0,none⟩),.int .i64 (v+1)] w5.drew fun e w6=>
       (∃ (n0:Str) (l0:List Tm) (a6:Option Addr) (c6 j6:Nat),e = .returned (.agg #[.string ⟨n0.toArray⟩,.slice a6 l0.length c6])∧Hid (pT l (v+1) j=some (.mk n0 l0,l.drop j6)∧j<j6∧j6<l.length)∧Hid (Tryz.Rd rb tb o cap l w6 j6)∧Hid (Kp w.heap.size rb w w6)∧Hid (w6.heap[rs]?=w5.heap[rs]?)∧w6.cell? ⟨ob,1,none⟩=some (.slice ar acc.length cpr)∧Hid (w6.heap[ob]?=some (.cells #[.string ⟨nm.toArray⟩,.slice ar acc.length cpr] 42 (0,0)))∧ob<w6.heap.size ∧
        Hid (bV (ob+1) 42 2 (w6.alloc (.cells #[.string ⟨n0.toArray⟩,.slice a6 l0.length c6] 42)) (.slice ar acc.length cpr) (acc.map enT)) ∧
        (∀ (q:Nat) u,[Value.string ⟨n0.toArray⟩,.slice a6 l0.length c6][q]?=some u→(w6.alloc (.cells #[.string ⟨n0.toArray⟩,.slice a6 l0.length c6] 42)).cell? ((⟨w6.heap.size,0,none⟩:Addr).add q)=some u) ∧
        Hid (∀ (q:Nat) u k,[Value.string ⟨n0.toArray⟩,.slice a6 l0.length c6][q]?=some u→(D.cells (enT (.mk n0 l0)))[q]?=some k→RdD (fun b=>ob+1≤b∧b<(w6.alloc (.cells #[.string ⟨n0.toArray⟩,.slice a6 l0.length c6] 42)).heap.size∧Value.ownBlock (.slice ar acc.length cpr)≠some b) (w6.alloc (.cells #[.string ⟨n0.toArray⟩,.slice a6 l0.length c6] 42)) u k∧u.oneCell'=true∧D.one k=true)) ∨
       (∃ ch,e = .panicked ch∧Tryz.Out rb tb o cap l w i enT (pT l v i) (.panicked ch) w6)):=hid (by
      refine (ih.out j w5.drew hij hj HR5.out.drew).mono ?_;rintro e w6 (⟨val,⟨n0,l0⟩,j6,rfl,hp6,hij6,hj6,hR6,hK6,hd6⟩ | ⟨hp6,⟨ch,rfl,hv⟩,hK6⟩)
      ·obtain ⟨u6,rfl,hu6⟩:=rdt hd6;obtain ⟨a6,c6,rfl,_⟩:=rdl hu6;have hobs:ob<w5.drew.heap.size:=Nat.lt_of_lt_of_le hz hz5;obtain ⟨r1,r2,r3⟩:=bV.ready (w:=w5.drew) (HRow5.out.keep (w':=w5.drew) (Nat.le_refl _) (fun _ _ _=>rfl)) hobs hK6.size (fun b h1 h2=>hK6.block b h2 (by omega)) _ _ (yt hd6);have y6:=(hK6.block ob hobs hob1.1).trans hy5;exact .inl ⟨n0,l0,a6,c6,j6,rfl,⟨hp6,hij6,hj6⟩,hR6,HK5.out.drew.trans (hK6.mono HK5.out.size),hK6.block rs (by have:w5.drew.heap.size=w5.heap.size:=rfl;omega) (by omega),(aC y6).2.1,y6,Nat.lt_of_lt_of_le hobs hK6.size,r1,r2,r3⟩
      ·exact .inr ⟨ch,rfl,.inr ⟨hpT.out.trans (by rw [Me hp6]),⟨ch,rfl,hv⟩,HK5.out.drew.trans (hK6.mono HK5.out.size)⟩⟩)
     clear HR5 HK5 HRow5 ih
     go_region_law (first
       | (go_simp;go_at_call 102;refine cT.out.mono ?_;rintro e w6 (⟨n0,l0,a6,c6,j6,rfl,hp6,HR6,HK6,hx6,b6,hy6,hz6,r1,r2,r3⟩ | ⟨ch,rfl,hO⟩);rotate_left;refine And.intro ?_ hO;rfl)
       | (refine uX rfl _ _ _ rfl Tryz.termInfo rfl r1.out _ _ rfl (enT (.mk n0 l0)) _ rfl r2 (jR _) r3.out ?_ ?_ ?_;rotate_left 2;intro g7 c7 w7 hr7 hg7;have y7:=(r1.out.far hg7 (Nat.lt_succ_self ob) (by simp;omega)).trans ((heap_alloc_old w6 _ hz6).trans hy6.out);have b7:=(aC y7).2.1;have f7:=(aC y7).2.2.2;replace y7:=hid y7;replace hr7:=hid hr7;rotate_left;rw [List.length_map];omega;simp;omega))
     all_goals
      have hB7:Below (ob+1) w6 w7:=⟨hg7.os,hg7.tape,hg7.output,by have:=hg7.size;simp at this;omega,fun k hk=>(r1.out.far hg7 hk (by simp;omega)).trans (heap_alloc_old w6 _ (by omega))⟩;obtain ⟨hp6,hij6,hj6⟩:=hp6.out;rw [List.length_map] at hr7;obtain ⟨vg,hvg⟩:∃ vg,Value.slice (some ⟨g7,0,none⟩) (acc.length+1) c7=vg:=⟨_,rfl⟩
      rw [hvg] at hr7 ⊢;obtain ⟨W8,hW8⟩:∃ W,w7.setCell ⟨ob,1,none⟩ vg=W:=⟨_,rfl⟩
      have HR8:=hid ((HR6.out.keep hB7 (by omega) (by omega)).put ⟨ob,1,none⟩ vg (by simp;omega) (by simp;omega));have HK8:=hid ((HK6.out.trans (Kp.of (hB7.mono (by omega)))).setCell (p:=⟨ob,1,none⟩) (.inr (by simp;omega)) vg);have y8:=bC 1 vg y7.out;have x8:=((aA w7 ⟨ob,1,none⟩ vg (by simp;omega:rs≠_)).trans (hB7.block rs (by omega))).trans (hx6.out.trans hx5);have HRow8:=hid (hr7.out.keep (w':=w7.setCell ⟨ob,1,none⟩ vg) (by simp [World.setCell]) (fun b hb _=>aA w7 _ _ (by simp;omega)));simp only [List.setIfInBounds_toArray,List.set_cons_succ,List.set_cons_zero] at y8;rw [hW8] at HR8 HK8 y8 x8 HRow8 ⊢;have hz8:=(Array.getElem?_eq_some_iff.1 y8).1;have hn4:¬ (acc.length=4∧dZ (l.drop j)=true):=h44;clear hW8 hr7 y7 b7 f7 hg7 r1 r2 r3 b6 hy6 HR6 HK6 hx6 hB7 cT b0 b1 b2 b3 hvg;by_cases hc:cZ [44] (l.drop j6)=true
      ·have hj7:=iV he hj6 hc;have hpl8:=hpl.trans (MB hj6 hij6 hn4 hp6 hc)
       go_wp2_with (go_at_call 171;refine (Tryz.nK HR8.out hj6 [44]).mono ?_;rintro e w9 ⟨rfl,hR9,hK9⟩;rw [hc] at hR9 ⊢;replace hR9:=hid hR9;replace hK9:=hid hK9)
       go_roundw
       case rel=>
        refine ⟨acc++[.mk n0 l0],j6+1,vg,hj7,by omega,by simp;omega,hpl8,hR9,hid (HK8.out.trans (hK9.out.mono HK8.out.size)),(hK9.out.block rs (by omega) (by omega)).trans x8,(hK9.out.block ob (by omega) (by omega)).trans y8,?_,Nat.lt_of_lt_of_le hz8 hK9.out.size⟩;rw [List.map_append];exact hid (HRow8.out.keep hK9.out.size (fun b hb hb2=>hK9.out.block b hb2 (by omega)))
       case measure=>
        rw [hR9.out.pos,hpos.out];simp only [if_true];omega
      ·have hc:cZ [44] (l.drop j6)=false:=(by simpa using hc);rw [EC hn4 hp6 hc] at hpl;have hpT9:=Ez hi hbeg (Nat.not_lt.2 hv) hk hp h2;rw [hpl,hnm] at hpT9
       replace hpT9:Hid (pT l v i=if cZ [41] (l.drop j6)=true then some (.mk nm (acc++[.mk n0 l0]),(l.drop j6).tail) else none):=hid hpT9
       go_wp2_with (first
        | (go_at_call 171;refine (Tryz.nK HR8.out hj6 [44]).mono ?_;rintro e w9 ⟨rfl,hR9,hK9⟩;rw [hc] at hR9 ⊢;replace hR9:Hid (Tryz.Rd rb tb o cap l w9 j6):=hid hR9;replace hK9:=hid hK9)
        | (go_at_call 248;refine (Tryz.Xy hR9.out hj6 [41]).mono ?_;rintro e w10 (⟨h41,rfl,hR10,hK10⟩ | ⟨h41,⟨ch,rfl,hv⟩,hK10⟩)<;>refine Hid.out ?_))
       ·have h42:=iV he hj6 h41;have hK9b:=hK9.out;have x10:=(hK10.block rs (by have:=hK9b.size;omega) (by omega)).trans ((hK9b.block rs (by omega) (by omega)).trans x8);have y10:=(hK10.block ob (by have:=hK9b.size;omega) (by omega)).trans ((hK9b.block ob (by omega) (by omega)).trans y8);have HR10:=(HRow8.out.keep hK9b.size (fun b hb hb2=>hK9b.block b hb2 (by omega))).keep hK10.size (fun b hb hb2=>hK10.block b hb2 (by omega));have hd:=hid (HR10.rd (by decide));have HK:=hid (HK8.out.trans ((hK9b.mono HK8.out.size).trans (hK10.mono (Nat.le_trans HK8.out.size hK9b.size))))
        replace hR10:=hid hR10
        obtain ⟨ag,cg,hvg⟩:=HR10.shape;subst hvg;obtain ⟨a0,a1,a2,a3⟩:=aC x10;obtain ⟨b0,b1,b2,b3⟩:=aC y10;have hne:rs≠rb:=(by omega);clear hK10 hK9 hK9b HR10 x8 y8 HRow8 HR8 HK8;refine hid ?_
        go_wp2
        refine bodyPost_ret (v := .agg #[.string ⟨nm.toArray⟩,.slice ag (acc.map enT++[enT (.mk n0 l0)]).length cg]) (by simp [results,Tryz.results169,go_sem,a0,a1]) rfl ?_;refine .inl ⟨_,.mk nm (acc++[.mk n0 l0]),j6+1,rfl,by rw [hpT9.out,if_pos h41,tail_drop],by omega,h42,(hR10.out.put _ _ (by simp;omega) (by simp;omega)).put _ _ (by simp;omega) (by simp;omega),(HK.out.setCell (.inr (by simp;omega)) _).setCell (.inr (by simp;omega)) _,rd_mk (by rw [← hnm];exact (hR.out.toks i hi).2.2.2) ?_⟩;rw [List.map_append];refine hd.out.mono (fun b hb=>?_) (fun b hb=>⟨by omega,by simpa [World.setCell] using hb.2⟩);exact (aA _ _ _ (by simp;omega)).trans (aA _ _ _ (by simp;omega))
       ·refine hid ?_;exact ⟨rfl,.inr ⟨by rw [hpT9.out,h41];rfl,⟨ch,rfl,hv⟩,HK8.out.trans ((hK9.out.mono HK8.out.size).trans (hK10.mono (Nat.le_trans HK8.out.size hK9.out.size)))⟩⟩
 ·have hp:cZ [40] (l.drop (i+1))=false:=by simpa using hp
  go_enter Tryz.func169,Tryz.ntmps169
  go_wp2_with (first
   | (go_at_call 167;refine cT.mono ?_;rintro e w1 ⟨rfl,hb1⟩;obtain ⟨W2,hW2⟩:∃ W,w1.alloc (.cells #[.string ⟨nm.toArray⟩,.slice none 0 0] 42)=W:=⟨_,rfl⟩;have hs1:=hb1.size;have hB2:Below W0.heap.size W0 W2:=(by rw [← hW2];exact hb1.alloc hs1 _);have hR2:=hR0.keep hB2 (by omega) (by omega);have d1:=hR2.at1;have f1:=hR2.fz1;have hR3:=hR2.step;have hK3:Kp W0.heap.size rb W0 (W2.setCell ⟨rb,1,none⟩ (.int .i64 ((i:Int)+1))):=Kp.setCell (p:=⟨rb,1,none⟩) (Kp.of hB2) (.inl rfl) _;have y3:(W2.setCell ⟨rb,1,none⟩ (.int .i64 ((i:Int)+1))).heap[w1.heap.size]?=some (.cells #[.string ⟨nm.toArray⟩,.slice none 0 0] 42 (0,0)):=(aA _ _ _ (by simp;omega)).trans (by rw [← hW2];exact heap_alloc_new w1 _);have hs3:w1.heap.size<(W2.setCell ⟨rb,1,none⟩ (.int .i64 ((i:Int)+1))).heap.size:=(Array.getElem?_eq_some_iff.1 y3).1;subst hW2)
   | refine bP _ _ _ _ (Tryz.Rn _ _ _) rfl _ rfl rfl ?_
   | (go_at_call 171;refine (Tryz.nK hR3 h1 [40]).mono ?_;rintro e w4 ⟨rfl,hR4,hK4⟩;rw [hp] at hR4 ⊢;refine Hid.out ?_))
  have x4:=(hK4.block w.heap.size (by omega) (by omega)).trans ((hK3.block w.heap.size (by omega) (by omega)).trans y0);have y4:=(hK4.block w1.heap.size (by omega) (by omega)).trans y3;obtain ⟨a0,a1,a2,a3⟩:=aC x4;obtain ⟨b0,b1,b2,b3⟩:=aC y4;have hne:w.heap.size≠rb:=by omega
  refine hid ?_
  go_wp2
  refine bodyPost_ret (v := .agg #[.string ⟨nm.toArray⟩,.slice none 0 0]) (by simp [results,Tryz.results169,go_sem,a0,a1]) rfl ?_;have hK:Kp w.heap.size rb w w4:=((Kp.of hB0).trans (hK3.mono (by omega))).trans (hK4.mono (by omega));refine .inl ⟨_,.mk nm [],i+1,rfl,by rw [xZ hi hbeg (by omega) (.inr hp),hnm],by omega,h1,(hR4.put _ _ (by simp;omega) (by simp;omega)).put _ _ (by simp;omega) (by simp;omega),(hK.setCell (.inr (Nat.le_refl _)) _).setCell (.inr (Nat.le_refl _)) _,rd_mk (by rw [← hnm];exact (hR.toks i hi).2.2.2) (.mO none)⟩
end
set_option maxHeartbeats 1000000 in
set_option maxRecDepth 100000 in
theorem Tryz.Tv {rb tb o cap:Nat} {l:List Tk} (he:pI l):∀ (n v i:Nat) (w:World),l.length-i≤n→v≤5→i<l.length→Tryz.Rd rb tb o cap l w i →
  Calls Tryz.prog 102 #[.pointer (some ⟨rb,0,none⟩),.int .i64 v] w (Tryz.Out rb tb o cap l w i enT (pT l v i))
 | 0,v,i,w,hn,hv,hi,hR=>by omega
 | n+1,v,i,w,hn,hv,hi,hR=>by
   obtain ⟨W0,hW0⟩:∃ W,w.alloc (.cells #[.string ⟨#[]⟩,.slice none 0 0] 42)=W:=⟨_,rfl⟩
   have hs0:W0.heap.size=w.heap.size+1:=(by rw [← hW0];simp);have hB0:Below w.heap.size w W0:=(by rw [← hW0];exact (Below.refl _ w).alloc (Nat.le_refl _) _);have y0:W0.heap[w.heap.size]?=some (.cells #[.string ⟨#[]⟩,.slice none 0 0] 42 (0,0)):=(by rw [← hW0];exact heap_alloc_new w _);have hR0:=hR.keep hB0 hR.fA hR.lt;have cT:=Tryz.oP hR0 hi;have hr:=hR.fA;have ht:=hR.lt;have hl:=hR.len;have hbe:=pz hi;have hb0:=aac (v:=v) hi;have hdp:=L6 (v:=v) hi;have hlf:=xZ (v:=v) hi;have cC:l[i].1=1→v≤4→∀ w2,Tryz.Rd rb tb o cap l w2 i→Calls Tryz.prog 169 #[.pointer (some ⟨rb,0,none⟩),.int .i64 v] w2 (Tryz.Out rb tb o cap l w2 i enT (pT l v i)):=fun hk hv4 w2 h2=>
    Tryz.Qj h2 he hi hk hv4 (fun j w1 hij hj h1=>by
     have:=Tryz.Tv he n (v+1) j w1 (by omega) (by omega) hj h1
     simpa using this)
   have hnx:dZ (l.drop i)=true→i+1<l.length:=Ar he hi;have hmx:=(hR.toks i hi).2.2.2;generalize hres:pT l v i=res at *
   replace hR:=hid hR
   have hgen:∃ k s m,l[i].1=k∧l[i].2.1=s∧l[i].2.2=m:=⟨_,_,_,rfl,rfl,rfl⟩;obtain ⟨k,s,m,e1,e2,e3⟩:=hgen;rw [e1] at hbe cC hlf cT;rw [e2] at hlf cT hmx;rw [e3] at cT
   replace hlf:=hid hlf
   replace hb0:=hid hb0
   replace hdp:=hid hdp
   replace cC:=hid cC
   replace hnx:=hid hnx
   replace hres:=hid hres
   by_cases hk:k=1∨k=2∨k=3
   ·have hb:dZ (l.drop i)=true:=(by rw [hbe];rcases hk with rfl | rfl | rfl<;>rfl);have h1:=hnx.out hb;have hkk:(k:Int)=1∨(k:Int)=2∨(k:Int)=3:=(by omega);clear hbe hb0;by_cases hv4:4<v
    ·have hr0:=hdp.out hv4;subst hr0
     go_enter Tryz.func102,Tryz.ntmps102
     go_wp2_with (first
      | (go_at_call 167;refine cT.mono ?_;rintro e w1 ⟨rfl,hb1⟩;have hs1:=hb1.size;have hR2:=hid ((hR0.keep hb1 (by omega) (by omega)).keep (w':=w1.alloc (.cells #[.int .i64 k,.string ⟨s.toArray⟩,.int .i64 m] 231)) ((Below.refl _ w1).alloc (Nat.le_refl _) _) (by omega) (by omega));have hK2:Hid (Kp w.heap.size rb w (w1.alloc (.cells #[.int .i64 k,.string ⟨s.toArray⟩,.int .i64 m] 231))):=hid (Kp.of ((hB0.trans (hb1.mono (by omega))).alloc (by omega) _));have x2:(w1.alloc (.cells #[.int .i64 k,.string ⟨s.toArray⟩,.int .i64 m] 231)).heap[w.heap.size]?=some (.cells #[.string ⟨#[]⟩,.slice none 0 0] 42 (0,0)):=(heap_alloc_old w1 _ (by omega)).trans ((hb1.block w.heap.size (by omega)).trans y0))
      | refine bP _ _ _ _ (Tryz.nX _ _ _) rfl _ rfl rfl ?_
      | (go_at_call 168;refine (Tryz.Cj hR2.out hi 3 (by decide)).mono ?_;rintro e w2 ⟨⟨ch,rfl,hv⟩,h2⟩))
     all_goals exact ⟨rfl,.inr ⟨rfl,⟨ch,rfl,hv⟩,hK2.out.trans (Kp.of (h2.mono (by simp;omega)))⟩⟩
    ·by_cases hk1:k=1
     ·have cC1:=hid (cC.out hk1 (Nat.not_lt.1 hv4));have hk1':(k:Int)=1:=(by omega);clear hlf hdp cC hnx hkk
      replace hk1:=hid hk1
      go_enter Tryz.func102,Tryz.ntmps102
      go_wp2_with (first
       | (go_at_call 167;refine cT.mono ?_;rintro e w1 ⟨rfl,hb1⟩;have hs1:=hb1.size;have hR2:=hid ((hR0.keep hb1 (by omega) (by omega)).keep (w':=w1.alloc (.cells #[.int .i64 1,.string ⟨s.toArray⟩,.int .i64 m] 231)) ((Below.refl _ w1).alloc (Nat.le_refl _) _) (by omega) (by omega));have hK2:Hid (Kp w.heap.size rb w (w1.alloc (.cells #[.int .i64 1,.string ⟨s.toArray⟩,.int .i64 m] 231))):=hid (Kp.of ((hB0.trans (hb1.mono (by omega))).alloc (by omega) _));have x2:(w1.alloc (.cells #[.int .i64 1,.string ⟨s.toArray⟩,.int .i64 m] 231)).heap[w.heap.size]?=some (.cells #[.string ⟨#[]⟩,.slice none 0 0] 42 (0,0)):=(heap_alloc_old w1 _ (by omega)).trans ((hb1.block w.heap.size (by omega)).trans y0))
       | refine bP _ _ _ _ (Tryz.nX _ _ _) rfl _ rfl rfl ?_
       | (go_at_call 169;refine (cC1.out _ hR2.out).mono ?_;rintro e w3 (⟨val,t,j,rfl,hp,hij,hj,hR3,hK3,hd⟩ | ⟨hp,⟨ch,rfl,hv⟩,hK3⟩)<;>refine Hid.out ?_))
      ·obtain ⟨n0,l0⟩:=t;obtain ⟨u,rfl,hu⟩:=rdt hd;obtain ⟨a3,c3,rfl,_⟩:=rdl hu;have hne:w.heap.size≠rb:=(by omega);have hnt:w.heap.size≠tb:=(by omega);have x3:=(hK3.block w.heap.size (by simp;omega) hne).trans x2;obtain ⟨a0,a1,a2,a4⟩:=aC x3;have hK:=hK2.out.trans (hK3.mono (by simp;omega));clear x2 hK2;refine hid ?_
       go_wp2
       refine bodyPost_ret (v := .agg #[.string ⟨n0.toArray⟩,.slice a3 l0.length c3]) (by simp [results,Tryz.results102,go_sem,a0,a1]) rfl ?_;refine .inl ⟨_,.mk n0 l0,j,rfl,hp,hij,hj,(hR3.put _ _ (by simp;omega) (by simp;omega)).put _ _ (by simp;omega) (by simp;omega),(hK.setCell (.inr (Nat.le_refl _)) _).setCell (.inr (Nat.le_refl _)) _,hd.mono (fun b hb=>?_) (fun b hb=>⟨by have:=hb.1;simp at this;omega,by simpa [World.setCell] using hb.2⟩)⟩;have:=hb.1;simp at this;exact (aA _ _ _ (by simp;omega)).trans (aA _ _ _ (by simp;omega))
      ·refine hid ?_;exact ⟨rfl,.inr ⟨rfl,⟨ch,rfl,hv⟩,hK2.out.trans (hK3.mono (by simp;omega))⟩⟩
     ·have hkn:(k:Int)≠1:=(by omega);have hr0:=hlf.out hb hv4 (.inl hk1);subst hr0;clear hlf hdp cC hnx;have hne:w.heap.size≠rb:=(by omega);have hnt:w.heap.size≠tb:=(by omega);have hk23:(k:Int)=2∨(k:Int)=3:=(by omega);clear hkk
      go_enter Tryz.func102,Tryz.ntmps102
      go_wp2_with (first
       | (go_at_call 167;refine cT.mono ?_;rintro e w1 ⟨rfl,hb1⟩;have hs1:=hb1.size;have hR2:=hid ((hR0.keep hb1 (by omega) (by omega)).keep (w':=w1.alloc (.cells #[.int .i64 k,.string ⟨s.toArray⟩,.int .i64 m] 231)) ((Below.refl _ w1).alloc (Nat.le_refl _) _) (by omega) (by omega));have hK2:Hid (Kp w.heap.size rb w (w1.alloc (.cells #[.int .i64 k,.string ⟨s.toArray⟩,.int .i64 m] 231))):=hid (Kp.of ((hB0.trans (hb1.mono (by omega))).alloc (by omega) _));have x2:(w1.alloc (.cells #[.int .i64 k,.string ⟨s.toArray⟩,.int .i64 m] 231)).heap[w.heap.size]?=some (.cells #[.string ⟨#[]⟩,.slice none 0 0] 42 (0,0)):=(heap_alloc_old w1 _ (by omega)).trans ((hb1.block w.heap.size (by omega)).trans y0);have hst:=hid hR2.out.step;have d1:=hR2.out.at1;have f1:=hR2.out.fz1;obtain ⟨a0,a1,a2,a4⟩:=aC x2)
       | refine bP _ _ _ _ (Tryz.nX _ _ _) rfl _ rfl rfl ?_)
      all_goals
       refine bodyPost_ret (v := .agg #[.string ⟨s.toArray⟩,.slice none 0 0]) (by simp [results,Tryz.results102,go_sem,a0,a1,hne]) rfl ?_;exact .inl ⟨_,.mk s [],i+1,rfl,rfl,by omega,h1,(hst.out.put _ _ (by simp;omega) (by simp;omega)).put _ _ (by simp;omega) (by simp;omega),((Kp.setCell (p:=⟨rb,1,none⟩) hK2.out (.inl rfl) _).setCell (.inr (Nat.le_refl _)) _).setCell (.inr (Nat.le_refl _)) _,rd_mk hmx (.mO none)⟩
   ·have hb:dZ (l.drop i)=false:=by
     rw [hbe];simp only [not_or] at hk;simp [hk]
    have hn1:(k:Int)≠1:=(by omega);have hn2:(k:Int)≠2:=(by omega);have hn3:(k:Int)≠3:=(by omega);have hr0:=hb0.out hb;clear hk hbe hb;subst hr0
    go_enter Tryz.func102,Tryz.ntmps102
    go_wp2_with (first
     | (go_at_call 167;refine cT.mono ?_;rintro e w1 ⟨rfl,hb1⟩;have hs1:=hb1.size;have hR2:=hid ((hR0.keep hb1 (by omega) (by omega)).keep (w':=w1.alloc (.cells #[.int .i64 k,.string ⟨s.toArray⟩,.int .i64 m] 231)) ((Below.refl _ w1).alloc (Nat.le_refl _) _) (by omega) (by omega));have hK2:Hid (Kp w.heap.size rb w (w1.alloc (.cells #[.int .i64 k,.string ⟨s.toArray⟩,.int .i64 m] 231))):=hid (Kp.of ((hB0.trans (hb1.mono (by omega))).alloc (by omega) _));have x2:(w1.alloc (.cells #[.int .i64 k,.string ⟨s.toArray⟩,.int .i64 m] 231)).heap[w.heap.size]?=some (.cells #[.string ⟨#[]⟩,.slice none 0 0] 42 (0,0)):=(heap_alloc_old w1 _ (by omega)).trans ((hb1.block w.heap.size (by omega)).trans y0))
     | refine bP _ _ _ _ (Tryz.nX _ _ _) rfl _ rfl rfl ?_
     | (go_at_call 168;refine (Tryz.Cj hR2.out hi 1 (by decide)).mono ?_;rintro e w2 ⟨⟨ch,rfl,hv⟩,h2⟩))
    exact ⟨rfl,.inr ⟨rfl,⟨ch,rfl,hv⟩,hK2.out.trans (Kp.of (h2.mono (by simp;omega)))⟩⟩
def YE (ts:List Tm):D := .list (ts.map enT)
def Tryz.ang {α:Type} (rb tb o cap:Nat) (l:List Tk) (w:World) (en:α→D) (res:Option (α×List Tk)) (e:Ending) (w':World):Prop:=
 (∃ val x j,e = .returned val∧res=some (x,l.drop j)∧j<l.length∧Tryz.Rd rb tb o cap l w' j∧Kp w.heap.size rb w w'∧RdD (fun b=>w.heap.size≤b∧b<w'.heap.size) w' val (en x)) ∨
 (res=none∧(∃ ch,e = .panicked ch∧Tryz.WI ch)∧Kp w.heap.size rb w w')
def pTs (l:List Tk) (k:Nat):Option (List Tm×List Tk):=if k=0 then some ([],l.drop 0) else pJ l [] 0
theorem MG {l:List Tk} {acc:List Tm} {i j:Nat} {t:Tm} (hi:i<l.length) (hj:j<l.length) (hij:i<j) (h:pT l 1 i=some (t,l.drop j)):pJ l acc i=if cZ [44] (l.drop j)=true then pJ l (acc++[t]) (j+1) else some (acc++[t],l.drop j):=by
 by_cases hc:cZ [44] (l.drop j)=true
 ·rw [if_pos hc,Xw hj hij h hc]
 ·rw [if_neg hc,Xx hi h (by simpa using hc)]
theorem Tryz.Hy {rb tb o cap:Nat} {l:List Tk} (he:pI l) {w:World} {i B:Nat} {va:Value} {ds:List D} (hi:i<l.length) (hR:Tryz.Rd rb tb o cap l w i) (hRow:bV B 42 2 w va ds) (hB:B≤w.heap.size) (hrB:rb<B) :
  Calls Tryz.prog 102 #[.pointer (some ⟨rb,0,none⟩),.int .i64 1] w fun e w6=>
   (∃ (n0:Str) (l0:List Tm) (a6:Option Addr) (c6 j6:Nat),e = .returned (.agg #[.string ⟨n0.toArray⟩,.slice a6 l0.length c6])∧Hid (pT l 1 i=some (.mk n0 l0,l.drop j6)∧i<j6∧j6<l.length)∧Hid (Tryz.Rd rb tb o cap l w6 j6)∧Hid (Kp w.heap.size rb w w6) ∧
    Hid (bV B 42 2 (w6.alloc (.cells #[.string ⟨n0.toArray⟩,.slice a6 l0.length c6] 42)) va ds) ∧
    (∀ (q:Nat) u,[Value.string ⟨n0.toArray⟩,.slice a6 l0.length c6][q]?=some u→(w6.alloc (.cells #[.string ⟨n0.toArray⟩,.slice a6 l0.length c6] 42)).cell? ((⟨w6.heap.size,0,none⟩:Addr).add q)=some u) ∧
    Hid (∀ (q:Nat) u k,[Value.string ⟨n0.toArray⟩,.slice a6 l0.length c6][q]?=some u→(D.cells (enT (.mk n0 l0)))[q]?=some k→RdD (fun b=>B≤b∧b<(w6.alloc (.cells #[.string ⟨n0.toArray⟩,.slice a6 l0.length c6] 42)).heap.size∧va.ownBlock≠some b) (w6.alloc (.cells #[.string ⟨n0.toArray⟩,.slice a6 l0.length c6] 42)) u k∧u.oneCell'=true∧D.one k=true)) ∨
   (∃ ch,e = .panicked ch∧Hid (Tryz.WI ch∧pT l 1 i=none∧Kp w.heap.size rb w w6)):=by
 refine (Tryz.Tv he l.length 1 i w (by omega) (by decide) hi hR).mono ?_;rintro e w6 (⟨val,⟨n0,l0⟩,j6,rfl,hp6,hij6,hj6,hR6,hK6,hd6⟩ | ⟨hp6,⟨ch,rfl,hv⟩,hK6⟩)
 ·obtain ⟨u6,rfl,hu6⟩:=rdt hd6;obtain ⟨a6,c6,rfl,_⟩:=rdl hu6;obtain ⟨r1,r2,r3⟩:=hRow.ready hB hK6.size (fun b h1 h2=>hK6.block b h2 (by omega)) _ _ (yt hd6);exact .inl ⟨n0,l0,a6,c6,j6,rfl,⟨hp6,hij6,hj6⟩,hR6,hK6,r1,r2,r3⟩
 ·exact .inr ⟨ch,rfl,hv,hp6,hK6⟩
set_option maxHeartbeats 1000000 in
set_option maxRecDepth 100000 in
theorem Tryz.aek {rb tb o cap:Nat} {l:List Tk} (he:pI l) (w:World) (hi:0<l.length) (hR:Tryz.Rd rb tb o cap l w 0) :
  Calls Tryz.prog 104 #[.pointer (some ⟨rb,0,none⟩)] w (Tryz.ang rb tb o cap l w YE (pTs l l[0].1)):=by
 have cT:=Tryz.oP hR hi;have hr:=hR.fA;have ht:=hR.lt;have hl:=hR.len;have hR':=hid hR;by_cases hk:l[0].1=0
 ·rw [hk] at cT ⊢;generalize l[0].2.1=s at cT;generalize l[0].2.2=m at cT
  go_enter Tryz.func104,Tryz.ntmps104
  go_wp2_with (first
   | (go_at_call 167;refine cT.mono ?_;rintro e w1 ⟨rfl,hb1⟩)
   | refine bP _ _ _ _ (Tryz.nX _ _ _) rfl _ rfl rfl ?_)
  go_ret
  exact .inl ⟨_,[],0,rfl,rfl,hi,hR.keep hb1 hr ht,.of hb1,.mO none⟩
 ·have hk':(l[0].1:Int)≠0:=by omega
  have hres:pTs l l[0].1=pJ l [] 0:=if_neg hk;rw [hres];clear hres;generalize l[0].1=k at cT hk hk';generalize l[0].2.1=s at cT;generalize l[0].2.2=m at cT;have hr1:rb<w.heap.size:=hr;have cU:=hid (fun (w2:World) (hb:Below w.heap.size w w2)=>Tryz.Hy he hi (hR.keep hb hr ht) (bV.nil (B:=w.heap.size)) hb.size hr1);have hpn:=hid (MF (acc:=[]) hi)
  go_enter Tryz.func104,Tryz.ntmps104
  go_wp2_with (first
   | (go_at_call 167;refine cT.mono ?_;rintro e w1 ⟨rfl,hb1⟩)
   | refine bP _ _ _ _ (Tryz.nX _ _ _) rfl _ rfl rfl ?_
   | (go_at_call 102;refine (cU.out w1 hb1).mono ?_;rintro e w6 (⟨n0,l0,a6,c6,j6,rfl,hp6,HR6,HK6,r1,r2,r3⟩ | ⟨ch,rfl,hO⟩);rotate_left;exact ⟨rfl,.inr ⟨hpn.out hO.out.2.1,⟨ch,rfl,hO.out.1⟩,(Kp.of hb1).trans (hO.out.2.2.mono hb1.size)⟩⟩)
   | (at_builtin;refine dP rfl _ _ _ rfl Tryz.termInfo rfl r1.out _ _ rfl (enT (.mk n0 l0)) _ rfl r2 (jR _) r3.out ?_ ?_ ?_;rotate_left 2;intro g7 c7 w7 hr7 hg7;rotate_left;simp;have:=HK6.out.size;have:=hb1.size;simp;omega;refine Hid.out ?_))
  obtain ⟨hp,hij,hj⟩:=hp6.out;have hB7:=r1.out.below hg7 (by have:=HK6.out.size;have:=hb1.size;omega);have hz6:=HK6.out.size;have hz1:=hb1.size;have hinv:=hid (MG (acc:=[]) hi hj hij hp);have HR7:=hid (HR6.out.keep (hB7.mono (B':=w.heap.size) (Nat.le_refl _)) hr ht);have HK7:=hid (((Kp.of hb1).trans (HK6.out.mono hb1.size)).trans (Kp.of hB7));have HRow7:Hid (bV w.heap.size 42 2 w7 (.slice (some ⟨g7,0,none⟩) 1 c7) (([]++[Tm.mk n0 l0]).map enT)):=hid hr7;clear hr7 hg7 r1 r2 r3 hp6 HR6 HK6 hb1 hB7 cU hpn cT;refine hid ?_
  go_wp2_with fail
  go_loopw [3] (fun vo wr=>∃ (acc:List Tm) (j:Nat),j<l.length∧acc.length≤j∧Hid (pJ l [] 0=if cZ [44] (l.drop j)=true then pJ l acc (j+1) else some (acc,l.drop j))∧Hid (Tryz.Rd rb tb o cap l wr j)∧Hid (Kp w.heap.size rb w wr)∧Hid (bV w.heap.size 42 2 wr vo (acc.map enT))) (fun _ wr=>l.length-posOf rb wr)
  case atStart=>exact ⟨[.mk n0 l0],j6,hj,by simp;omega,hinv,HR7,HK7,HRow7⟩
  case round=>
   obtain ⟨acc,j,hj,hacc,hinv,HR,HK,HRow⟩:=hrel;have hpos:=hid HR.out.pos;have hzr:=HK.out.size;by_cases hc:cZ [44] (l.drop j)=true
   ·have hj1:=iV he hj hc
    replace hinv:Hid (pJ l [] 0=pJ l acc (j+1)):=hid (hinv.out.trans (if_pos hc))
    have hpn:=hid (MF (acc:=acc) hj1)
    go_wp2_with (first
     | (go_at_call 171;refine (Tryz.nK HR.out hj [44]).mono ?_;rintro e w9 ⟨rfl,hR9,hK9⟩;rw [hc] at hR9 ⊢;have hR9:Tryz.Rd rb tb o cap l w9 (j+1):=hR9;have HK9:=hid (HK.out.trans (hK9.mono hzr));have hz9:=hK9.size;have cU:=hid (Tryz.Hy he hj1 hR9 (HRow.out.keep hz9 (fun b hb hb2=>hK9.block b hb2 (by omega))) (Nat.le_trans hzr hz9) hr))
     | (go_at_call 102;refine cU.out.mono ?_;rintro e w6 (⟨n0,l0,a6,c6,j6,rfl,hp6,HR6,HK6,r1,r2,r3⟩ | ⟨ch,rfl,hO⟩);rotate_left;refine And.intro ?_ (.inr ⟨hinv.out.trans (hpn.out hO.out.2.1),⟨ch,rfl,hO.out.1⟩,HK9.out.trans (hO.out.2.2.mono HK9.out.size)⟩);rfl)
     | (at_builtin;refine dP rfl _ _ _ rfl Tryz.termInfo rfl r1.out _ _ rfl (enT (.mk n0 l0)) _ rfl r2 (jR _) r3.out ?_ ?_ ?_;rotate_left 2;intro g7 c7 w7 hr7 hg7;rotate_left;simp;omega;have:=HK6.out.size;simp;omega;refine Hid.out ?_))
    obtain ⟨hp,hij,hj6⟩:=hp6.out;have hz6:=HK6.out.size;have hB7:=r1.out.below hg7 (by omega);have HR7:=hid (HR6.out.keep hB7 hr ht);have HK7:=hid ((HK9.out.trans (HK6.out.mono HK9.out.size)).trans (Kp.of hB7));rw [List.length_map] at hr7
    replace hr7:=hid hr7
    have hinv7:=hid (hinv.out.trans (MG (acc:=acc) hj1 hj6 hij hp));clear hg7 r1 r2 r3 hB7;refine hid ?_
    go_wp2_with fail
    go_roundw
    case rel=>
     refine ⟨acc++[.mk n0 l0],j6,hj6,by simp;omega,hinv7,HR7,HK7,?_⟩;rw [List.map_append];exact hr7
    case measure=>
     rw [HR7.out.pos,hpos.out];omega
   ·have hc:cZ [44] (l.drop j)=false:=by simpa using hc
    replace hinv:Hid (pJ l [] 0=some (acc,l.drop j)):=hid (hinv.out.trans (if_neg (by rw [hc];simp)))
    go_wp2_with (go_at_call 171;refine (Tryz.nK HR.out hj [44]).mono ?_;rintro e w9 ⟨rfl,hR9,hK9⟩;rw [hc] at hR9 ⊢;replace hR9:Hid (Tryz.Rd rb tb o cap l w9 j):=hid hR9;replace hK9:=hid hK9)
    go_ret
    exact .inl ⟨_,acc,j,rfl,hinv.out,hj,hR9.out,HK.out.trans (hK9.out.mono hzr),(HRow.out.keep hK9.out.size (fun b hb hb2=>hK9.out.block b hb2 (by omega))).rd (by decide)⟩
end Go.Proofs
namespace Go.Proofs
open Go Go.RowKit Go.Shelf Go.Abs Go.Own Go.Proofs.YtpmapognbdiahaaGreatDoor
def qC (s:Str) (w:World) (e:Ending) (w':World):Prop:=
 (∃ l val,jB s=some l∧e = .returned (.tuple #[val,.int .i64 0,.int .i64 0])∧RdD (fun b=>w.heap.size≤b∧b<w'.heap.size) w' val (.list (l.map enK))∧Below w.heap.size w w') ∨
 (jB s=none∧∃ a e1:Int,e1≠0∧e = .returned (.tuple #[.slice none 0 0,.int .i64 a,.int .i64 e1])∧Below w.heap.size w w')
def nC {α:Type} (en:α→D) (zero:Value) (res:Option α) (w:World) (e:Ending) (w':World):Prop:=
 (∃ x val a,res=some x∧e = .returned (.tuple #[val,.int .i64 a,.int .i64 0])∧RdD (fun b=>w.heap.size≤b∧b<w'.heap.size) w' val (en x)∧Below w.heap.size w w') ∨
 (res=none∧∃ a e1:Int,e1≠0∧e = .returned (.tuple #[zero,.int .i64 a,.int .i64 e1])∧Below w.heap.size w w')
set_option maxHeartbeats 1000000 in
set_option maxRecDepth 100000 in
theorem Tryz.aem {rb tb o cap:Nat} {l:List Tk} (he:pI l) {w:World} (hi:0<l.length) (hR:Tryz.Rd rb tb o cap l w 0) :
  Calls Tryz.prog 101 #[.pointer (some ⟨rb,0,none⟩)] w (Tryz.Out rb tb o cap l w 0 enT (pT l 1 0)):=by
 obtain ⟨W0,hW0⟩:∃ W,w.alloc (.cells #[.string ⟨#[]⟩,.slice none 0 0] 42)=W:=⟨_,rfl⟩
 have hs0:W0.heap.size=w.heap.size+1:=by rw [← hW0];simp
 have hB0:Below w.heap.size w W0:=by rw [← hW0];exact (Below.refl _ w).alloc (Nat.le_refl _) _
 have y0:W0.heap[w.heap.size]?=some (.cells #[.string ⟨#[]⟩,.slice none 0 0] 42 (0,0)):=by rw [← hW0];exact heap_alloc_new w _
 have hr:=hR.fA;have ht:=hR.lt;have c:=Tryz.Tv he l.length 1 0 W0 (by omega) (by decide) hi (hR.keep hB0 hr ht)
 go_enter Tryz.func101,Tryz.ntmps101
 go_wp2_with (go_at_call 102;refine c.mono ?_;rintro e w3 (⟨val,t,j,rfl,hp,hij,hj,hR3,hK3,hd⟩ | ⟨h0,⟨ch,rfl,hv⟩,hk⟩)<;>refine Hid.out ?_)
 ·obtain ⟨n0,l0⟩:=t;obtain ⟨u,rfl,hu⟩:=rdt hd;obtain ⟨a3,c3,rfl,_⟩:=rdl hu;have hne:w.heap.size≠rb:=by omega
  have hnt:w.heap.size≠tb:=by omega
  have x3:=(hK3.block w.heap.size (by omega) hne).trans y0;obtain ⟨a0,a1,a2,a4⟩:=aC x3;have hK:=(Kp.of (rb:=rb) hB0).trans (hK3.mono (by omega));refine hid ?_
  go_wp2
  refine bodyPost_ret (v := .agg #[.string ⟨n0.toArray⟩,.slice a3 l0.length c3]) (by simp [results,Tryz.results101,go_sem,a0,a1]) rfl ?_;refine .inl ⟨_,.mk n0 l0,j,rfl,hp,hij,hj,(hR3.put _ _ (by simp;omega) (by simp;omega)).put _ _ (by simp;omega) (by simp;omega),(hK.setCell (.inr (Nat.le_refl _)) _).setCell (.inr (Nat.le_refl _)) _,hd.mono (fun b hb=>?_) (fun b hb=>⟨by have:=hb.1;omega,by simpa [World.setCell] using hb.2⟩)⟩;have:=hb.1;exact (aA _ _ _ (by simp;omega)).trans (aA _ _ _ (by simp;omega))
 ·refine hid ?_;exact ⟨rfl,.inr ⟨rfl,⟨ch,rfl,hv⟩,(Kp.of hB0).trans (hk.mono (by omega))⟩⟩
theorem Tryz.res1 {w:World} {x y:Value} {ob:Nat} {a e:Int} (h:Tryz.Named ob w #[x,y] 42 a e) (tmps:Array Value) (h0:tmps.getD 4 undef = .pointer (some ⟨ob,0,none⟩)) (h1:tmps.getD 5 undef = .pointer (some ⟨ob+1,0,none⟩)) (h2:tmps.getD 6 undef = .pointer (some ⟨ob+1+1,0,none⟩)) :
  (results Tryz.f100 tmps).run Tryz.prog w = .ok (.tuple #[.agg #[x,y],.int .i64 a,.int .i64 e]) w:=by
 obtain ⟨c0,c1,_,_⟩:=aC h.out;obtain ⟨d0,_,d2,_⟩:=h.cells;simp only [Array.getD_eq_getD_getElem?] at h0 h1 h2;simp [results,Tryz.results100,go_sem,h0,h1,h2,c0,c1,d0,d2]
set_option maxHeartbeats 1000000 in
set_option maxRecDepth 100000 in
theorem Tryz.ag3 (s:Str) (hs:s.length≤16384) (w:World) (hLex:∀ W,Below w.heap.size w W→Calls Tryz.prog 165 #[.string ⟨s.toArray⟩] W (qC s W)) :
  Calls Tryz.prog 100 #[.string ⟨s.toArray⟩,.func (.func 101) #[] #[]] w (nC enT (.agg #[.string ⟨#[]⟩,.slice none 0 0]) (gQ s) w):=by
 have hmf:∀ (fn:Fn) (first cap:Array Value) (w:World),(Instr.makeFunc fn first cap).run Tryz.prog w = .ok (.func fn first cap) w:=fun _ _ _ _=>rfl
 go_enter_defers Tryz.func100,Tryz.ntmps100
 obtain ⟨W3,hW3⟩:∃ W,((w.alloc (.cells #[.string ⟨#[]⟩,.slice none 0 0] 42)).alloc (.cells #[.int .i64 0] 3)).alloc (.cells #[.int .i64 0] 24)=W:=⟨_,rfl⟩
 have hB3:Below w.heap.size w W3:=by rw [← hW3];exact (((Below.refl _ w).alloc (Nat.le_refl _) _).alloc (by simp) _).alloc (by simp;omega) _
 have hs3:W3.heap.size=w.heap.size+3:=by rw [← hW3];simp
 have hN:Tryz.Named w.heap.size W3 #[.string ⟨#[]⟩,.slice none 0 0] 42 0 0:=by
  rw [← hW3];refine ⟨(heap_alloc_old _ _ (by simp;omega)).trans ((heap_alloc_old _ _ (by simp)).trans (heap_alloc_new w _)),(heap_alloc_old _ _ (by simp)).trans ?_,?_⟩
  ·have:=heap_alloc_new (w.alloc (.cells #[.string ⟨#[]⟩,.slice none 0 0] 42)) (.cells #[.int .i64 0] 3)
   rwa [World.size_alloc] at this
  ·have:=heap_alloc_new ((w.alloc (.cells #[.string ⟨#[]⟩,.slice none 0 0] 42)).alloc (.cells #[.int .i64 0] 3)) (.cells #[.int .i64 0] 24)
   rwa [World.size_alloc,World.size_alloc] at this
 have cL:=hLex W3 hB3
 go_wp2_with (go_at_call 165;refine cL.mono ?_;rintro e w4 (⟨l,val,hl,rfl,hd,hb4⟩ | ⟨hl,a,e1,he1,rfl,hb4⟩)<;>refine Hid.out ?_)
 ·have N4:=hN.keep (w':=w4) (fun k hk _=>hb4.block k (by omega));obtain ⟨a0,a1,a2,a3⟩:=aC N4.out;obtain ⟨d0,d1,d2,d3⟩:=N4.cells;have he:=zH hl (by omega);obtain ⟨tb,o,cap,rfl,hok,hc1,hc2,htk⟩:=rdk hd he.1;obtain ⟨W5,hW5⟩:∃ W,(w4.setCell ⟨w.heap.size+1,0,none⟩ (.int .i64 0)).setCell ⟨w.heap.size+1+1,0,none⟩ (.int .i64 0)=W:=⟨_,rfl⟩
  have N5:=(N4.GV 0).GU 0;rw [hW5] at N5;have hs4:=hb4.size;have hs5:W5.heap.size=w4.heap.size:=by rw [← hW5];simp [World.setCell]
  have hT5:W5.heap[tb]?=w4.heap[tb]?:=by rw [← hW5];exact (aA _ _ _ (by simp;omega)).trans (aA _ _ _ (by simp;omega))
  have hB5:Below w.heap.size w W5:=by rw [← hW5];exact ((hB3.trans (hb4.mono (by omega))).setCell (p:=⟨w.heap.size+1,0,none⟩) (Nat.le_succ _) _).setCell (p:=⟨w.heap.size+1+1,0,none⟩) (by simp;omega) _
  obtain ⟨W6,hW6⟩:∃ W,W5.alloc (.cells #[.slice (some ⟨tb,o,none⟩) l.length cap,.int .i64 0] 229)=W:=⟨_,rfl⟩
  have hs6:W6.heap.size=W5.heap.size+1:=by rw [← hW6];simp
  have hB6:Below w.heap.size w W6:=by rw [← hW6];exact hB5.alloc (by omega) _
  have hR6:Tryz.Rd W5.heap.size tb o cap l W6 0:=⟨by rw [← hW6];exact heap_alloc_new W5 _,(htk.keep hT5).keep (by rw [← hW6];exact heap_alloc_old W5 _ (by omega)),by omega,by omega,he.2.1,hc1,hc2⟩;rw [hs5] at hR6;have N6:=N5.keep (w':=W6) (fun k hk _=>by rw [← hW6];exact heap_alloc_old W5 _ (by omega));obtain ⟨b0,b1,b2,b3⟩:=aC N5.out;obtain ⟨e0,e1,e2,e3⟩:=N5.cells;have cV:=Tryz.aem he he.1 hR6;have hrt:=hid (fun h=>yT hl h);have hre:=fun t j hj h=>BO (t:=t) (j:=j) hl hj h
  refine hid ?_
  go_wp2_with (go_at_call 101;refine cV.mono ?_;rintro e w7 (⟨val,x,j,rfl,hp,hij,hj,hR7,hK7,hd7⟩ | ⟨hp,⟨ch,rfl,hv⟩,hK7⟩)<;>refine Hid.out ?_)
  ·obtain ⟨n0,l0⟩:=x;obtain ⟨u,rfl,hu⟩:=rdt hd7;obtain ⟨a7,c7,rfl,_⟩:=rdl hu;have N7:=N6.keep (w':=w7) (fun k hk _=>hK7.block k (by omega) (by omega));have hB7:Below w.heap.size w w7:=hB6.trans (hK7.below' (by omega) (by omega));obtain ⟨g0,g1,g2,g3⟩:=aC N7.out;obtain ⟨W8,hW8⟩:∃ W,(w7.setCell ⟨w.heap.size,0,none⟩ (.string ⟨n0.toArray⟩)).setCell ⟨w.heap.size,1,none⟩ (.slice a7 l0.length c7)=W:=⟨_,rfl⟩
   have N8:=(N7.Ef 0 (.string ⟨n0.toArray⟩)).Ef 1 (.slice a7 l0.length c7);have hB8:=(hB7.setCell (p:=⟨w.heap.size,0,none⟩) (Nat.le_refl _) (.string ⟨n0.toArray⟩)).setCell (p:=⟨w.heap.size,1,none⟩) (Nat.le_refl _) (.slice a7 l0.length c7);have hR8:=(hR7.put ⟨w.heap.size,0,none⟩ (.string ⟨n0.toArray⟩) (by simp;omega) (by simp;omega)).put ⟨w.heap.size,1,none⟩ (.slice a7 l0.length c7) (by simp;omega) (by simp;omega);have hd8:RdD (fun b=>w.heap.size+3≤b∧b<w7.heap.size) ((w7.setCell ⟨w.heap.size,0,none⟩ (.string ⟨n0.toArray⟩)).setCell ⟨w.heap.size,1,none⟩ (.slice a7 l0.length c7)) (.agg #[.string ⟨n0.toArray⟩,.slice a7 l0.length c7]) (enT (.mk n0 l0)):=hd7.mono (fun b hb=>by have:=hb.1;exact (aA _ _ _ (by simp;omega)).trans (aA _ _ _ (by simp;omega))) (fun b hb=>⟨by omega,hb.2⟩);have hs8:((w7.setCell ⟨w.heap.size,0,none⟩ (.string ⟨n0.toArray⟩)).setCell ⟨w.heap.size,1,none⟩ (.slice a7 l0.length c7)).heap.size=w7.heap.size:=(by simp [World.setCell]);simp only [List.setIfInBounds_toArray,List.set_cons_succ,List.set_cons_zero] at N8;rw [hW8] at N8 hB8 hR8 hd8 hs8;have cT:=Tryz.oP hR8 hj;have hres:=hre _ j hj hp;have hk7:=hK7.size;obtain ⟨k,hk⟩:∃ k,l[j].1=k:=⟨_,rfl⟩
   rw [hk] at cT hres;clear hrt hre cV hR7 hK7 hd7;have hlt8:w.heap.size+3≤W8.heap.size:=(by omega);by_cases hk0:k=0
   ·subst hk0;rw [if_pos rfl] at hres
    replace hres:=hid hres
    refine hid ?_
    go_wp2_with (first
     | (go_at_call 167;refine cT.mono ?_;rintro e w9 ⟨rfl,hb9⟩;have N9:=N8.keep (w':=w9) (fun k hk _=>hb9.block k (by omega));obtain ⟨p0,p1,p2,p3⟩:=aC N9.out;obtain ⟨q0,q1,q2,q3⟩:=N9.cells)
     | refine bP _ _ _ _ (Tryz.nX _ _ _) rfl _ rfl rfl ?_)
    refine leaves_cons (f:=166) (args:=#[.pointer (some ⟨w.heap.size,0,none⟩),.pointer (some ⟨w.heap.size+1,0,none⟩),.pointer (some ⟨w.heap.size+1+1,0,none⟩)]) (by simp) (by simp [go_sem]) ?_;refine (Tryz.idle1 _ _ rfl).mono ?_;rintro e u w11 ⟨⟨v,rfl⟩,rfl,hB11⟩;have N11:=((((N9.Ef 0 (.string ⟨n0.toArray⟩)).Ef 1 (.slice a7 l0.length c7)).GV 0).GU 0).drew.keep (w':=w11) (fun k hk _=>hB11.block k (by have:=hb9.size;simp [World.setCell];omega));have hB12:=((((hB8.trans (hb9.mono (by omega))).setCell (p:=⟨w.heap.size,0,none⟩) (Nat.le_refl _) (.string ⟨n0.toArray⟩)).setCell (p:=⟨w.heap.size,1,none⟩) (Nat.le_refl _) (.slice a7 l0.length c7)).setCell (p:=⟨w.heap.size+1,0,none⟩) (Nat.le_succ _) (.int .i64 0)).setCell (p:=⟨w.heap.size+1+1,0,none⟩) (by simp;omega) (.int .i64 0);refine ⟨_,Tryz.res1 N11 _ rfl rfl rfl,.inl ⟨.mk n0 l0,_,0,hres.out,rfl,hd8.mono (fun b hb=>?_) (fun b hb=>⟨by omega,?_⟩),hB12.trans (hB11.mono (by have:=hb9.size;simp [World.setCell];omega))⟩⟩
    ·have:=hb9.size;refine (hB11.block b (by simp [World.setCell];omega)).trans ?_;exact (aA _ _ _ (by simp;omega)).trans ((aA _ _ _ (by simp;omega)).trans ((aA _ _ _ (by simp;omega)).trans ((aA _ _ _ (by simp;omega)).trans (hb9.block b (by omega)))))
    ·have:=hb9.size;have:=hB11.size;simp [World.setCell] at this;omega
   ·have hk1:(k:Int)≠0:=(by omega);rw [if_neg hk0] at hres
    replace hres:=hid hres
    refine hid ?_
    go_wp2_with (first
     | (go_at_call 167;refine cT.mono ?_;rintro e w9 ⟨rfl,hb9⟩;have hR9:=hid (hR8.keep hb9 hR8.fA hR8.lt))
     | refine bP _ _ _ _ (Tryz.nX _ _ _) rfl _ rfl rfl ?_
     | (go_at_call 168;refine (Tryz.Cj hR9.out hj 1 (by decide)).mono ?_;rintro e w10 ⟨⟨ch,rfl,hv⟩,hb10⟩))
    obtain ⟨a1,e1,he1,rfl⟩:=hv;have hb:=hb9.trans (hb10.mono hb9.size);have N10:=N8.keep (w':=w10) (fun k hk _=>hb.block k (by omega));refine leaves_cons (f:=166) (args:=#[.pointer (some ⟨w.heap.size,0,none⟩),.pointer (some ⟨w.heap.size+1,0,none⟩),.pointer (some ⟨w.heap.size+1+1,0,none⟩)]) (by simp) (by simp [go_sem]) ?_;refine (Tryz.Wq w.heap.size _ _ 0 0 a1 e1 [] w10 N10).mono ?_;rintro e u w11 ⟨⟨v,rfl⟩,rfl,N11,hB11⟩;exact ⟨_,Tryz.res1 N11 _ rfl rfl rfl,.inr ⟨hres.out,a1,e1,he1,rfl,(hB8.trans (hb.mono (by omega))).trans hB11⟩⟩
  ·have N7:=N6.keep (w':=w7) (fun k hk _=>hK7.block k (by omega) (by omega));have hB7:Below w.heap.size w w7:=hB6.trans (hK7.below' (by omega) (by omega));obtain ⟨a1,e1,he1,rfl⟩:=hv;refine hid ?_;refine leaves_cons (f:=166) (args:=#[.pointer (some ⟨w.heap.size,0,none⟩),.pointer (some ⟨w.heap.size+1,0,none⟩),.pointer (some ⟨w.heap.size+1+1,0,none⟩)]) (by simp) (by simp [go_sem]) ?_;refine (Tryz.Wq w.heap.size _ _ 0 0 a1 e1 [] w7 N7).mono ?_;rintro e u w8 ⟨⟨v,rfl⟩,rfl,N8,hB8⟩;exact ⟨_,Tryz.res1 N8 _ rfl rfl rfl,.inr ⟨hrt.out hp,a1,e1,he1,rfl,hB7.trans hB8⟩⟩
 ·have N4:=hN.keep (w':=w4) (fun k hk _=>hb4.block k (by omega));obtain ⟨a0,a1,a2,a3⟩:=aC N4.out;obtain ⟨d0,d1,d2,d3⟩:=N4.cells;refine hid ?_
  go_wp2
  go_region
  simp only [Exit.then]
  go_wp2
  have hBw:Below w.heap.size w w4:=hB3.trans (hb4.mono (by omega));refine ⟨_,Tryz.res1 (((((N4.GV a).GU e1).Ef 0 _).Ef 1 _).GV a |>.GU e1).drew _ rfl rfl rfl,.inr ⟨BP hl,a,e1,he1,rfl,?_⟩⟩;exact ((((((hBw.setCell (p:=⟨w.heap.size+1,0,none⟩) (Nat.le_succ _) _).setCell (p:=⟨w.heap.size+1+1,0,none⟩) (by simp;omega) _).setCell (p:=⟨w.heap.size,0,none⟩) (Nat.le_refl _) _).setCell (p:=⟨w.heap.size,1,none⟩) (Nat.le_refl _) _).setCell (p:=⟨w.heap.size+1,0,none⟩) (Nat.le_succ _) _).setCell (p:=⟨w.heap.size+1+1,0,none⟩) (by simp;omega) _).drew
theorem Tt {s:Str} {l:List Tk} (hl:jB s=some l) (h0:0<l.length) (h:pTs l l[0].1=none):iF s=none:=by
 unfold pTs at h;split at h
 ·cases h
 ·rename_i hk;exact JG hl h0 hk h
theorem Xv {s:Str} {l:List Tk} {ts:List Tm} {j:Nat} (hl:jB s=some l) (h0:0<l.length) (hj:j<l.length) (h:pTs l l[0].1=some (ts,l.drop j)):iF s=if l[j].1=0 then some ts else none:=by
 unfold pTs at h;split at h
 ·rename_i hk;have hlen:=congrArg (fun x=>x.map fun y=>y.2.length) h;simp only [Option.map_some,List.length_drop,Option.some.injEq] at hlen;obtain rfl:j=0:=by omega
  cases h;rw [if_pos hk,BQ hl h0 hk]
 ·rename_i hk;exact Qa hl h0 hk hj h
theorem Tryz.res2 {w:World} {x:Value} {ob:Nat} {a e:Int} (h:Tryz.Named ob w #[x] 40 a e) (tmps:Array Value) (h0:tmps.getD 4 undef = .pointer (some ⟨ob,0,none⟩)) (h1:tmps.getD 5 undef = .pointer (some ⟨ob+1,0,none⟩)) (h2:tmps.getD 6 undef = .pointer (some ⟨ob+1+1,0,none⟩)) :
  (results Tryz.f103 tmps).run Tryz.prog w = .ok (.tuple #[x,.int .i64 a,.int .i64 e]) w:=by
 have c0:w.cell? ⟨ob,0,none⟩=some x:=by simp [World.cell?,h.out]
 obtain ⟨d0,_,d2,_⟩:=h.cells;simp only [Array.getD_eq_getD_getElem?] at h0 h1 h2;simp [results,Tryz.results103,go_sem,h0,h1,h2,c0,d0,d2]
set_option maxHeartbeats 1000000 in
set_option maxRecDepth 100000 in
theorem Tryz.ag2 (s:Str) (hs:s.length≤16384) (w:World) (hLex:∀ W,Below w.heap.size w W→Calls Tryz.prog 165 #[.string ⟨s.toArray⟩] W (qC s W)) :
  Calls Tryz.prog 103 #[.string ⟨s.toArray⟩,.func (.func 104) #[] #[]] w (nC YE (.slice none 0 0) (iF s) w):=by
 have hmf:∀ (fn:Fn) (first cap:Array Value) (w:World),(Instr.makeFunc fn first cap).run Tryz.prog w = .ok (.func fn first cap) w:=fun _ _ _ _=>rfl
 go_enter_defers Tryz.func103,Tryz.ntmps103
 obtain ⟨W3,hW3⟩:∃ W,((w.alloc (.cells #[.slice none 0 0] 40)).alloc (.cells #[.int .i64 0] 3)).alloc (.cells #[.int .i64 0] 24)=W:=⟨_,rfl⟩
 have hB3:Below w.heap.size w W3:=by rw [← hW3];exact (((Below.refl _ w).alloc (Nat.le_refl _) _).alloc (by simp) _).alloc (by simp;omega) _
 have hs3:W3.heap.size=w.heap.size+3:=by rw [← hW3];simp
 have hN:Tryz.Named w.heap.size W3 #[.slice none 0 0] 40 0 0:=by
  rw [← hW3];refine ⟨(heap_alloc_old _ _ (by simp;omega)).trans ((heap_alloc_old _ _ (by simp)).trans (heap_alloc_new w _)),(heap_alloc_old _ _ (by simp)).trans ?_,?_⟩
  ·have:=heap_alloc_new (w.alloc (.cells #[.slice none 0 0] 40)) (.cells #[.int .i64 0] 3)
   rwa [World.size_alloc] at this
  ·have:=heap_alloc_new ((w.alloc (.cells #[.slice none 0 0] 40)).alloc (.cells #[.int .i64 0] 3)) (.cells #[.int .i64 0] 24)
   rwa [World.size_alloc,World.size_alloc] at this
 have cL:=hLex W3 hB3
 go_wp2_with (go_at_call 165;refine cL.mono ?_;rintro e w4 (⟨l,val,hl,rfl,hd,hb4⟩ | ⟨hl,a,e1,he1,rfl,hb4⟩)<;>refine Hid.out ?_)
 ·have N4:=hN.keep (w':=w4) (fun k hk _=>hb4.block k (by omega));have a0:w4.cell? ⟨w.heap.size,0,none⟩=some (.slice none 0 0):=by simp [World.cell?,N4.out]
  have a2:w4.frozen? ⟨w.heap.size,0,none⟩=false:=by simp [World.frozen?,N4.out]
  obtain ⟨d0,d1,d2,d3⟩:=N4.cells;have he:=zH hl (by omega);obtain ⟨tb,o,cap,rfl,hok,hc1,hc2,htk⟩:=rdk hd he.1;obtain ⟨W5,hW5⟩:∃ W,(w4.setCell ⟨w.heap.size+1,0,none⟩ (.int .i64 0)).setCell ⟨w.heap.size+1+1,0,none⟩ (.int .i64 0)=W:=⟨_,rfl⟩
  have N5:=(N4.GV 0).GU 0;rw [hW5] at N5;have hs4:=hb4.size;have hs5:W5.heap.size=w4.heap.size:=by rw [← hW5];simp [World.setCell]
  have hT5:W5.heap[tb]?=w4.heap[tb]?:=by rw [← hW5];exact (aA _ _ _ (by simp;omega)).trans (aA _ _ _ (by simp;omega))
  have hB5:Below w.heap.size w W5:=by rw [← hW5];exact ((hB3.trans (hb4.mono (by omega))).setCell (p:=⟨w.heap.size+1,0,none⟩) (Nat.le_succ _) _).setCell (p:=⟨w.heap.size+1+1,0,none⟩) (by simp;omega) _
  obtain ⟨W6,hW6⟩:∃ W,W5.alloc (.cells #[.slice (some ⟨tb,o,none⟩) l.length cap,.int .i64 0] 229)=W:=⟨_,rfl⟩
  have hs6:W6.heap.size=W5.heap.size+1:=by rw [← hW6];simp
  have hB6:Below w.heap.size w W6:=by rw [← hW6];exact hB5.alloc (by omega) _
  have hR6:Tryz.Rd W5.heap.size tb o cap l W6 0:=⟨by rw [← hW6];exact heap_alloc_new W5 _,(htk.keep hT5).keep (by rw [← hW6];exact heap_alloc_old W5 _ (by omega)),by omega,by omega,he.2.1,hc1,hc2⟩;rw [hs5] at hR6;have N6:=N5.keep (w':=W6) (fun k hk _=>by rw [← hW6];exact heap_alloc_old W5 _ (by omega));have b0:W5.cell? ⟨w.heap.size,0,none⟩=some (.slice none 0 0):=by simp [World.cell?,N5.out]
  have b2:W5.frozen? ⟨w.heap.size,0,none⟩=false:=by simp [World.frozen?,N5.out]
  obtain ⟨e0,e1,e2,e3⟩:=N5.cells;have cV:=Tryz.aek he W6 he.1 hR6;have hrt:Hid (pTs l (l[0]'he.1).1=none→iF s=none):=hid (Tt hl he.1);have hre:=fun ts j hj h=>Xv (ts:=ts) (j:=j) hl he.1 hj h
  refine hid ?_
  go_wp2_with (go_at_call 104;refine cV.mono ?_;rintro e w7 (⟨val,x,j,rfl,hp,hj,hR7,hK7,hd7⟩ | ⟨hp,⟨ch,rfl,hv⟩,hK7⟩)<;>refine Hid.out ?_)
  ·obtain ⟨a7,c7,rfl,_⟩:=rdl hd7;have N7:=N6.keep (w':=w7) (fun k hk _=>hK7.block k (by omega) (by omega));have hB7:Below w.heap.size w w7:=hB6.trans (hK7.below' (by omega) (by omega));have g0:w7.cell? ⟨w.heap.size,0,none⟩=some (.slice none 0 0):=(by simp [World.cell?,N7.out]);have g2:w7.frozen? ⟨w.heap.size,0,none⟩=false:=(by simp [World.frozen?,N7.out]);obtain ⟨W8,hW8⟩:∃ W,w7.setCell ⟨w.heap.size,0,none⟩ (.slice a7 x.length c7)=W:=⟨_,rfl⟩
   have N8:=N7.Ef 0 (.slice a7 x.length c7);have hB8:=hB7.setCell (p:=⟨w.heap.size,0,none⟩) (Nat.le_refl _) (.slice a7 x.length c7);have hR8:=hR7.put ⟨w.heap.size,0,none⟩ (.slice a7 x.length c7) (by simp;omega) (by simp;omega);have hd8:RdD (fun b=>w.heap.size+3≤b∧b<w7.heap.size) (w7.setCell ⟨w.heap.size,0,none⟩ (.slice a7 x.length c7)) (.slice a7 x.length c7) (YE x):=hd7.mono (fun b hb=>by have:=hb.1;exact aA _ _ _ (by simp;omega)) (fun b hb=>⟨by omega,hb.2⟩);have hs8:(w7.setCell ⟨w.heap.size,0,none⟩ (.slice a7 x.length c7)).heap.size=w7.heap.size:=(by simp [World.setCell]);simp only [List.setIfInBounds_toArray,List.set_cons_zero] at N8;rw [hW8] at N8 hB8 hR8 hd8 hs8;have cT:=Tryz.oP hR8 hj;have hres:=hre _ j hj hp;have hk7:=hK7.size;obtain ⟨k,hk⟩:∃ k,l[j].1=k:=⟨_,rfl⟩
   rw [hk] at cT hres;clear hrt hre cV hR7 hK7 hd7;have hlt8:w.heap.size+3≤W8.heap.size:=(by omega);by_cases hk0:k=0
   ·subst hk0;rw [if_pos rfl] at hres
    replace hres:=hid hres
    refine hid ?_
    go_wp2_with (first
     | (go_at_call 167;refine cT.mono ?_;rintro e w9 ⟨rfl,hb9⟩;have N9:=N8.keep (w':=w9) (fun k hk _=>hb9.block k (by omega));have p0:w9.cell? ⟨w.heap.size,0,none⟩=some (.slice a7 x.length c7):=(by simp [World.cell?,N9.out]);have p2:w9.frozen? ⟨w.heap.size,0,none⟩=false:=(by simp [World.frozen?,N9.out]);obtain ⟨q0,q1,q2,q3⟩:=N9.cells)
     | refine bP _ _ _ _ (Tryz.nX _ _ _) rfl _ rfl rfl ?_)
    refine leaves_cons (f:=170) (args:=#[.pointer (some ⟨w.heap.size,0,none⟩),.pointer (some ⟨w.heap.size+1,0,none⟩),.pointer (some ⟨w.heap.size+1+1,0,none⟩)]) (by simp) (by simp [go_sem]) ?_;refine (Tryz.ahn _ _ rfl).mono ?_;rintro e u w11 ⟨⟨v,rfl⟩,rfl,hB11⟩;have N11:=(((N9.Ef 0 (.slice a7 x.length c7)).GV 0).GU 0).drew.keep (w':=w11) (fun k hk _=>hB11.block k (by have:=hb9.size;simp [World.setCell];omega));have hB12:=(((hB8.trans (hb9.mono (by omega))).setCell (p:=⟨w.heap.size,0,none⟩) (Nat.le_refl _) (.slice a7 x.length c7)).setCell (p:=⟨w.heap.size+1,0,none⟩) (Nat.le_succ _) (.int .i64 0)).setCell (p:=⟨w.heap.size+1+1,0,none⟩) (by simp;omega) (.int .i64 0);refine ⟨_,Tryz.res2 N11 _ rfl rfl rfl,.inl ⟨x,_,0,hres.out,rfl,hd8.mono (fun b hb=>?_) (fun b hb=>⟨by omega,?_⟩),hB12.trans (hB11.mono (by have:=hb9.size;simp [World.setCell];omega))⟩⟩
    ·have:=hb9.size;refine (hB11.block b (by simp [World.setCell];omega)).trans ?_;exact (aA _ _ _ (by simp;omega)).trans ((aA _ _ _ (by simp;omega)).trans ((aA _ _ _ (by simp;omega)).trans (hb9.block b (by omega))))
    ·have:=hb9.size;have:=hB11.size;simp [World.setCell] at this;omega
   ·have hk1:(k:Int)≠0:=(by omega);rw [if_neg hk0] at hres
    replace hres:=hid hres
    refine hid ?_
    go_wp2_with (first
     | (go_at_call 167;refine cT.mono ?_;rintro e w9 ⟨rfl,hb9⟩;have hR9:=hid (hR8.keep hb9 hR8.fA hR8.lt))
     | refine bP _ _ _ _ (Tryz.nX _ _ _) rfl _ rfl rfl ?_
     | (go_at_call 168;refine (Tryz.Cj hR9.out hj 1 (by decide)).mono ?_;rintro e w10 ⟨⟨ch,rfl,hv⟩,hb10⟩))
    obtain ⟨a1,e1,he1,rfl⟩:=hv;have hb:=hb9.trans (hb10.mono hb9.size);have N10:=N8.keep (w':=w10) (fun k hk _=>hb.block k (by omega));refine leaves_cons (f:=170) (args:=#[.pointer (some ⟨w.heap.size,0,none⟩),.pointer (some ⟨w.heap.size+1,0,none⟩),.pointer (some ⟨w.heap.size+1+1,0,none⟩)]) (by simp) (by simp [go_sem]) ?_;refine (Tryz.Wp w.heap.size _ 0 0 a1 e1 [] w10 N10).mono ?_;rintro e u w11 ⟨⟨v,rfl⟩,rfl,N11,hB11⟩;exact ⟨_,Tryz.res2 N11 _ rfl rfl rfl,.inr ⟨hres.out,a1,e1,he1,rfl,(hB8.trans (hb.mono (by omega))).trans hB11⟩⟩
  ·have N7:=N6.keep (w':=w7) (fun k hk _=>hK7.block k (by omega) (by omega));have hB7:Below w.heap.size w w7:=hB6.trans (hK7.below' (by omega) (by omega));obtain ⟨a1,e1,he1,rfl⟩:=hv;refine hid ?_;refine leaves_cons (f:=170) (args:=#[.pointer (some ⟨w.heap.size,0,none⟩),.pointer (some ⟨w.heap.size+1,0,none⟩),.pointer (some ⟨w.heap.size+1+1,0,none⟩)]) (by simp) (by simp [go_sem]) ?_;refine (Tryz.Wp w.heap.size _ 0 0 a1 e1 [] w7 N7).mono ?_;rintro e u w8 ⟨⟨v,rfl⟩,rfl,N8,hB8⟩;exact ⟨_,Tryz.res2 N8 _ rfl rfl rfl,.inr ⟨hrt.out hp,a1,e1,he1,rfl,hB7.trans hB8⟩⟩
 ·have N4:=hN.keep (w':=w4) (fun k hk _=>hb4.block k (by omega));have a0:w4.cell? ⟨w.heap.size,0,none⟩=some (.slice none 0 0):=by simp [World.cell?,N4.out]
  have a2:w4.frozen? ⟨w.heap.size,0,none⟩=false:=by simp [World.frozen?,N4.out]
  obtain ⟨d0,d1,d2,d3⟩:=N4.cells;refine hid ?_
  go_wp2
  go_region
  simp only [Exit.then]
  go_wp2
  have hBw:Below w.heap.size w w4:=hB3.trans (hb4.mono (by omega));refine ⟨_,Tryz.res2 ((((N4.GV a).GU e1).Ef 0 _).GV a |>.GU e1).drew _ rfl rfl rfl,.inr ⟨BR hl,a,e1,he1,rfl,?_⟩⟩;exact (((((hBw.setCell (p:=⟨w.heap.size+1,0,none⟩) (Nat.le_succ _) _).setCell (p:=⟨w.heap.size+1+1,0,none⟩) (by simp;omega) _).setCell (p:=⟨w.heap.size,0,none⟩) (Nat.le_refl _) _).setCell (p:=⟨w.heap.size+1,0,none⟩) (Nat.le_succ _) _).setCell (p:=⟨w.heap.size+1+1,0,none⟩) (by simp;omega) _).drew
set_option maxHeartbeats 1000000 in
set_option maxRecDepth 100000 in
theorem Tryz.P9 (s:Str) (hs:s.length≤16384) (w:World) (hLex:∀ W,Below w.heap.size w W→Calls Tryz.prog 165 #[.string ⟨s.toArray⟩] W (qC s W)) :
  Calls Tryz.prog 52 #[.string ⟨s.toArray⟩] w (nC enT (.agg #[.string ⟨#[]⟩,.slice none 0 0]) (gQ s) w):=by
 have hmf:∀ (fn:Fn) (first cap:Array Value) (w:World),(Instr.makeFunc fn first cap).run Tryz.prog w = .ok (.func fn first cap) w:=fun _ _ _ _=>rfl
 obtain ⟨W0,hW0⟩:∃ W,w.alloc (.cells #[.string ⟨#[]⟩,.slice none 0 0] 42)=W:=⟨_,rfl⟩
 have hs0:W0.heap.size=w.heap.size+1:=by rw [← hW0];simp
 have hB0:Below w.heap.size w W0:=by rw [← hW0];exact (Below.refl _ w).alloc (Nat.le_refl _) _
 have y0:W0.heap[w.heap.size]?=some (.cells #[.string ⟨#[]⟩,.slice none 0 0] 42 (0,0)):=by rw [← hW0];exact heap_alloc_new w _
 have cR:=Tryz.ag3 s hs W0 (fun W hW=>hLex W (hB0.trans (hW.mono (by omega))));generalize gQ s=res at cR
 go_enter Tryz.func52,Tryz.ntmps52
 go_wp2_with (go_at_call 100;refine cR.mono ?_;rintro e w1 (⟨x,val,a,rfl,rfl,hd,hb⟩ | ⟨rfl,a,e1,he1,rfl,hb⟩)<;>refine Hid.out ?_)
 ·obtain ⟨n0,l0⟩:=x;obtain ⟨u,rfl,hu⟩:=rdt hd;obtain ⟨a3,c3,rfl,_⟩:=rdl hu;obtain ⟨a0,a1,a2,a4⟩:=aC ((hb.block w.heap.size (by omega)).trans y0);refine hid ?_
  go_wp2
  refine bodyPost_ret (v := .tuple #[.agg #[.string ⟨n0.toArray⟩,.slice a3 l0.length c3],.int .i64 a,.int .i64 0]) (by simp [results,Tryz.results52,go_sem,a0,a1]) rfl ?_;refine .inl ⟨.mk n0 l0,_,a,rfl,rfl,hd.mono (fun b hb=>?_) (fun b hb=>⟨by omega,by simpa [World.setCell] using hb.2⟩),((hB0.trans (hb.mono (by omega))).setCell (p:=⟨w.heap.size,0,none⟩) (Nat.le_refl _) _).setCell (p:=⟨w.heap.size,1,none⟩) (Nat.le_refl _) _⟩;exact (aA _ _ _ (by simp;omega)).trans (aA _ _ _ (by simp;omega))
 ·obtain ⟨a0,a1,a2,a4⟩:=aC ((hb.block w.heap.size (by omega)).trans y0);refine hid ?_
  go_wp2
  refine bodyPost_ret (v := .tuple #[.agg #[.string ⟨#[]⟩,.slice none 0 0],.int .i64 a,.int .i64 e1]) (by simp [results,Tryz.results52,go_sem,a0,a1]) rfl ?_;exact .inr ⟨rfl,a,e1,he1,rfl,((hB0.trans (hb.mono (by omega))).setCell (p:=⟨w.heap.size,0,none⟩) (Nat.le_refl _) _).setCell (p:=⟨w.heap.size,1,none⟩) (Nat.le_refl _) _⟩
set_option maxHeartbeats 1000000 in
set_option maxRecDepth 100000 in
theorem Tryz.JE (s:Str) (hs:s.length≤16384) (w:World) (hLex:∀ W,Below w.heap.size w W→Calls Tryz.prog 165 #[.string ⟨s.toArray⟩] W (qC s W)) :
  Calls Tryz.prog 53 #[.string ⟨s.toArray⟩] w (nC YE (.slice none 0 0) (iF s) w):=by
 have hmf:∀ (fn:Fn) (first cap:Array Value) (w:World),(Instr.makeFunc fn first cap).run Tryz.prog w = .ok (.func fn first cap) w:=fun _ _ _ _=>rfl
 have cR:=Tryz.ag2 s hs w hLex;generalize iF s=res at cR
 go_enter Tryz.func53,Tryz.ntmps53
 go_wp2_with (go_at_call 103;refine cR.mono ?_;rintro e w1 (⟨x,val,a,rfl,rfl,hd,hb⟩ | ⟨rfl,a,e1,he1,rfl,hb⟩))
 ·go_ret3
  exact .inl ⟨x,_,a,rfl,rfl,hd,hb⟩
 ·go_ret3
  exact .inr ⟨rfl,a,e1,he1,rfl,hb⟩
end Go.Proofs
