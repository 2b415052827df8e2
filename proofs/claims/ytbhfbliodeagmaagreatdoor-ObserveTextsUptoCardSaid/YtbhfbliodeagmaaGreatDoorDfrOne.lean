/- The closures that parser.read defers: called by a frame that returns, they leave no trace. -/
import Derived.Test.YtbhfbliodeagmaaGreatDoorProg
import Derived.Tactics
import Derived.Tactics2
import Derived.Defers
import Derived.Recover
import Derived.Below
import Derived.Laws.Pointers
import Derived.WalkKit
set_option linter.all false
namespace Go.Proofs
open Go Go.RowKit
theorem Tryz.Qw (ρ:Operand→Value) (w:World) (d:Option Tmp) (t:TypeId) (p:String) (af:Array Edge):(execOp ρ { dst:=d,op:=Op.call { callee:=Callee.builtin Builtin.recover,args:=#[],argTypes:=#[] },type:=t,pos:=p,after:=af,guard:=none }).run Tryz.prog w = .ok .recover w:=by
 simp [execOp,go_sem]
theorem Tryz.Wp (ρ:Operand→Value) (w:World) (d:Option Tmp) (t:TypeId) (p:String) (af:Array Edge) (h:ρ (.tmp 7) = .nilIface):(execOp ρ { dst:=d,op:=Op.typeAssert (Operand.tmp 7) 20 285 true,type:=t,pos:=p,after:=af,guard:=none }).run Tryz.prog w = .ok (.value (.tuple #[.agg #[.int .i64 0,.int .i64 0],.bool false])) w:=by
 simp [execOp,Instr.typeAssert,go_sem,h]
section
variable {P:Program} {Q:Exit→Act→List Frame→World→Prop} {a:Act} {cs:List Frame} {w w':World} {ops:Array Oper} {i:Nat} {rest:List Nat} {o:Oper}
theorem Bh {c:Frame} (ho:ops[i]?=some o) (hg:o.guard=none) (hr:(execOp a.eval o).run P w = .ok .recover w') (hu:c.mode = .returning) (h:wpOpsS P ops Q rest (a.put o.dst .nilIface) (c::cs) w'):wpOpsS P ops Q (i::rest) a (c::cs) w:=by
 simp [wpOpsS,ho,Region.wanted,hg,hr,recoverD,hu];exact h
theorem bZ {v:Value} (ho:ops[i]?=some o) (hg:o.guard=none) (hr:(execOp a.eval o).run P w = .ok (.value v) w') (h:wpOpsS P ops Q rest (a.put o.dst v) cs w'):wpOpsS P ops Q (i::rest) a cs w:=by
 simp [wpOpsS,ho,Region.wanted,hg,hr,Oper.upon];exact h
theorem zA (ho:ops[i]?=some o) (hg:o.guard=none) (hr:(execOp a.eval o).run P w = .ok .skip w') (h:wpOpsS P ops Q rest (a.put o.dst undef) cs w'):wpOpsS P ops Q (i::rest) a cs w:=by
 simp [wpOpsS,ho,Region.wanted,hg,hr,Oper.upon];exact h
end
set_option maxRecDepth 100000 in
theorem Tryz.idle1 (args:Array Value) (w:World) (hs:args.size=3):CallsD Tryz.prog 234 args .returning w fun e u w'=>(∃ v,e = .returned v)∧u = .returning∧Below w.heap.size w w':=by
 obtain ⟨p0,p1,p2,rfl⟩:∃ a b c,args=#[a,b,c]:=by
  obtain ⟨l⟩:=args
  match l,hs with
  | [a,b,c],_=>exact ⟨a,b,c,rfl⟩
 refine callsD_of_wpS Tryz.func234 rfl fun c₀ cs hu=>?_
 rw [Tryz.ntmps234]
 apply wpS_seq
 apply wpS_region
 rw [show List.range _=[0,1,2,3,4,5,6,7] from rfl]
 generalize hQ:Exit.thenS _ _=Q
 generalize hO:(List.toArray _:Array Oper)=ops
 have h0:=congrArg (fun x:Array Oper=>x[0]?) hO.symm
 have h1:=congrArg (fun x:Array Oper=>x[1]?) hO.symm
 have h2:=congrArg (fun x:Array Oper=>x[2]?) hO.symm
 have h3:=congrArg (fun x:Array Oper=>x[3]?) hO.symm
 have h4:=congrArg (fun x:Array Oper=>x[4]?) hO.symm
 have h5:=congrArg (fun x:Array Oper=>x[5]?) hO.symm
 have h6:=congrArg (fun x:Array Oper=>x[6]?) hO.symm
 have h7:=congrArg (fun x:Array Oper=>x[7]?) hO.symm
 simp only [List.getElem?_toArray,List.getElem?_cons_succ,List.getElem?_cons_zero] at h0 h1 h2 h3 h4 h5 h6 h7
 clear hO
 simp only [List.size_toArray,List.length_cons,List.length_nil,Nat.reduceAdd,Nat.reduceSub,Array.replicate_succ,Array.replicate_zero,List.push_toArray,List.append_toArray,List.nil_append,List.cons_append]
 refine Bh h0 rfl (Tryz.Qw _ _ _ _ _ _) hu ?_
 simp [Act.put]
 refine bZ h1 rfl (Tryz.Wp _ _ _ _ _ _ (by simp [Act.eval])) ?_
 simp [Act.put]
 refine bZ h2 rfl (by simp [execOp,go_sem,Act.eval];first | rfl | exact ⟨rfl,rfl⟩) ?_
 simp [Act.put]
 refine bZ h3 rfl (by simp [execOp,go_sem,Act.eval];first | rfl | exact ⟨rfl,rfl⟩) ?_
 simp [Act.put]
 refine bZ h4 rfl (by simp [execOp,go_sem,Act.eval];first | rfl | exact ⟨rfl,rfl⟩) ?_
 simp [Act.put]
 refine bZ h5 rfl (by simp [execOp,go_sem,Act.eval];first | rfl | exact ⟨rfl,rfl⟩) ?_
 simp [Act.put]
 refine zA h6 rfl (by simp [execOp,go_sem,Act.eval];first | rfl | exact ⟨rfl,rfl⟩) ?_
 simp [Act.put]
 refine bZ h7 rfl (by simp [execOp,go_sem,Act.eval];first | rfl | exact ⟨rfl,rfl⟩) ?_
 simp [Act.put]
 show Q .normal _ _ _
 subst hQ
 apply wpS_seq
 apply wpS_region
 rw [show List.range _=[0] from rfl]
 generalize hQ:Exit.thenS _ _=Q
 clear h0 h1 h2 h3 h4 h5 h6 h7
 refine bZ (o:={ dst:=some 11,op:=Op.move (Operand.tmp 4),type:=4,pos := "parser.go:155",after:=#[],guard:=none }) rfl rfl (by simp [execOp,go_sem,Act.eval];first | rfl | exact ⟨rfl,rfl⟩) ?_
 simp [Act.put]
 show Q .normal _ _ _
 subst hQ
 refine wpS_cond (t:=false) (by simp [Act.eval]) ?_
 simp only [Bool.false_eq_true,if_false]
 refine wpS_of_wp (wp_skip ?_)
 refine ⟨rfl,.returning,by cases c₀;simp_all,.tuple #[],by simp [results,Tryz.results234],⟨_,rfl⟩,rfl,?_⟩
 exact (Below.refl _ w).alloc (Nat.le_refl _) _
set_option maxRecDepth 100000 in
theorem Tryz.akK (args:Array Value) (w:World) (hs:args.size=3):CallsD Tryz.prog 238 args .returning w fun e u w'=>(∃ v,e = .returned v)∧u = .returning∧Below w.heap.size w w':=by
 obtain ⟨p0,p1,p2,rfl⟩:∃ a b c,args=#[a,b,c]:=by
  obtain ⟨l⟩:=args
  match l,hs with
  | [a,b,c],_=>exact ⟨a,b,c,rfl⟩
 refine callsD_of_wpS Tryz.func238 rfl fun c₀ cs hu=>?_
 rw [Tryz.ntmps238]
 apply wpS_seq
 apply wpS_region
 rw [show List.range _=[0,1,2,3,4,5,6,7] from rfl]
 generalize hQ:Exit.thenS _ _=Q
 generalize hO:(List.toArray _:Array Oper)=ops
 have h0:=congrArg (fun x:Array Oper=>x[0]?) hO.symm
 have h1:=congrArg (fun x:Array Oper=>x[1]?) hO.symm
 have h2:=congrArg (fun x:Array Oper=>x[2]?) hO.symm
 have h3:=congrArg (fun x:Array Oper=>x[3]?) hO.symm
 have h4:=congrArg (fun x:Array Oper=>x[4]?) hO.symm
 have h5:=congrArg (fun x:Array Oper=>x[5]?) hO.symm
 have h6:=congrArg (fun x:Array Oper=>x[6]?) hO.symm
 have h7:=congrArg (fun x:Array Oper=>x[7]?) hO.symm
 simp only [List.getElem?_toArray,List.getElem?_cons_succ,List.getElem?_cons_zero] at h0 h1 h2 h3 h4 h5 h6 h7
 clear hO
 simp only [List.size_toArray,List.length_cons,List.length_nil,Nat.reduceAdd,Nat.reduceSub,Array.replicate_succ,Array.replicate_zero,List.push_toArray,List.append_toArray,List.nil_append,List.cons_append]
 refine Bh h0 rfl (Tryz.Qw _ _ _ _ _ _) hu ?_
 simp [Act.put]
 refine bZ h1 rfl (Tryz.Wp _ _ _ _ _ _ (by simp [Act.eval])) ?_
 simp [Act.put]
 refine bZ h2 rfl (by simp [execOp,go_sem,Act.eval];first | rfl | exact ⟨rfl,rfl⟩) ?_
 simp [Act.put]
 refine bZ h3 rfl (by simp [execOp,go_sem,Act.eval];first | rfl | exact ⟨rfl,rfl⟩) ?_
 simp [Act.put]
 refine bZ h4 rfl (by simp [execOp,go_sem,Act.eval];first | rfl | exact ⟨rfl,rfl⟩) ?_
 simp [Act.put]
 refine bZ h5 rfl (by simp [execOp,go_sem,Act.eval];first | rfl | exact ⟨rfl,rfl⟩) ?_
 simp [Act.put]
 refine zA h6 rfl (by simp [execOp,go_sem,Act.eval];first | rfl | exact ⟨rfl,rfl⟩) ?_
 simp [Act.put]
 refine bZ h7 rfl (by simp [execOp,go_sem,Act.eval];first | rfl | exact ⟨rfl,rfl⟩) ?_
 simp [Act.put]
 show Q .normal _ _ _
 subst hQ
 apply wpS_seq
 apply wpS_region
 rw [show List.range _=[0] from rfl]
 generalize hQ:Exit.thenS _ _=Q
 clear h0 h1 h2 h3 h4 h5 h6 h7
 refine bZ (o:={ dst:=some 11,op:=Op.move (Operand.tmp 4),type:=4,pos := "parser.go:155",after:=#[],guard:=none }) rfl rfl (by simp [execOp,go_sem,Act.eval];first | rfl | exact ⟨rfl,rfl⟩) ?_
 simp [Act.put]
 show Q .normal _ _ _
 subst hQ
 refine wpS_cond (t:=false) (by simp [Act.eval]) ?_
 simp only [Bool.false_eq_true,if_false]
 refine wpS_of_wp (wp_skip ?_)
 refine ⟨rfl,.returning,by cases c₀;simp_all,.tuple #[],by simp [results,Tryz.results238],⟨_,rfl⟩,rfl,?_⟩
 exact (Below.refl _ w).alloc (Nat.le_refl _) _
end Go.Proofs
