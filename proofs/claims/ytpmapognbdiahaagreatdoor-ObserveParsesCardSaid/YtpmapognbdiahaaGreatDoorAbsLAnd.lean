/- The evaluator of one operation, continued: what makes memory, and what writes it. -/
import Derived.Test.YtpmapognbdiahaaGreatDoorAbsFAnd
set_option linter.all false
namespace Go.Abs
open Go Go.RowKit
section
variable {P:Program} {T:Nat→TE}
theorem Ei (w:World) {t:Nat} {te:TE} {d:TypeDesc} {i:TypeInfo} (hf:TFacts P t te d i) (b off:Nat) (cur:Array Value) (Tb:TypeId) (hb:w.heap[b]?=some (.cells cur Tb (0,0))) (v:Value) (hs:v.cells.size=te.size)
  (hfit:off+v.cells.size≤cur.size) (h1:∀ u∈v.cells.toList,u.oneCell'=true):(Instr.storeAt t (.pointer (some ⟨b,off,none⟩)) v).run P w = .ok () (w.setRow b (patch cur off v.cells.toList)):=by
 have hst:=run_storeCells_at P b off Tb v.cells.toList 0 cur w hb (by simpa using hfit) h1;simp only [Nat.add_zero] at hst;simp only [Instr.storeAt,Instr.sureAddr,storeVar,Sem.run_bind,Sem.run_pure,Result.andThen_ok,hf.sizeOf,hs,ne_eq,not_true_eq_false,if_false];exact hst
end
theorem zY (off:Nat):∀ (l:List Value) (k:Nat) (cells:Array Value),off+k+l.length≤cells.size →
  (l.zipIdx k).foldl (fun cs (p:Value×Nat)=>cs.setIfInBounds (off+p.2) p.1) cells=patch cells (off+k) l
 | [],k,cells,h=>by simp [patch]
 | v::l,k,cells,h=>by
   simp only [List.length_cons] at h;have ih:=zY off l (k+1) (cells.setIfInBounds (off+k) v) (by simp;omega);simp only [List.zipIdx_cons,List.foldl_cons];rw [ih];have e:=list_seg_step cells.toList (off+k) v l (by simp;omega);unfold patch;congr 1
   simpa [Array.toList_setIfInBounds,Nat.add_assoc] using e
theorem QG (place:Nat→Option (Nat×Nat)) (cells:Array Value) (i off size:Nat) (v:Value) (rest:List (Nat×Value)) (hp:place i=some (off,size)) (hs:v.cells.size=size) (hfit:off+size≤cells.size) :
  Instr.fill place cells ((i,v)::rest)=Instr.fill place (patch cells off v.cells.toList) rest:=by
 have hf:=zY off v.cells.toList 0 cells (by simpa [hs] using hfit);simp only [Nat.add_zero] at hf;have hc:(v.cells.size≠size||decide (off+v.cells.size>cells.size))=false:=by simp [hs];omega
 rw [Instr.fill,hp];simp only [hc];rw [if_neg (by simp)];congr 1;rw [← hf,← Array.foldl_toList,Array.toList_zipIdx]
section
variable {P:Program} {T:Nat→TE}
end
section
variable {P:Program} {T:Nat→TE}
end
section
variable {P:Program} {T:Nat→TE}
end
section
variable {P:Program} {T:Nat→TE}
end
end Go.Abs
