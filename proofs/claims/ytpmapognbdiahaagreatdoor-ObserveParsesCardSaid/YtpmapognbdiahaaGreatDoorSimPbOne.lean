/- Sim: facts out of contracts that are proved by hand; worlds where internal/bytealg.MaxLen holds a number. -/
import Derived.Test.YtpmapognbdiahaaGreatDoorSimW3And
import Derived.Test.YtpmapognbdiahaaGreatDoorSimTabOne
set_option linter.all false
namespace Go.Sim
open Go Go.RowKit
open Go.Abs (TE TK SK TOK)
theorem rD {g:Gh} {n:Nat} (s:List UInt8) {x:Value} {l m:Nat} (hl:s.length=l) (hm:aU s=m) (h:RV g n (.str l m) x):x = .string ⟨s.toArray⟩:=by
 cases h with
 | str s' _=>rw [lY hl hm]
theorem Rx {g:Gh} {n:Nat} (s:List UInt8) {l m:Nat} (hl:s.length=l) (hm:aU s=m) (h:l≤maxL):RV g n (.str l m) (.string ⟨s.toArray⟩):=by
 subst hl;subst hm;exact .str s h
section
variable {P:Program} {T:Nat→TE} {w0:World} {ng:Nat}
theorem DJ {f:Nat} {F:Fact} (hf:∃ fn,P.funcs[f]?=some fn∧(fn.name == "runtime.NumGoroutine")=false∧fn.body.isNone=false) (h1:ng≤F.m) (h2:F.gone=[]) (h3:F.post=[]) (h4:F.n=F.m) (h5:∀ x∈F.pre,x.1∈F.same)
  (h6:∀ x∈F.pre,∃ o1,(bOf x.1).get (eY F.pre .lf)=some o1∧x.2.In o1)
  (h:∀ g hp w vs,HR T w0 ng g hp ⟨F.m⟩ w→Sub (eY F.pre .lf) hp→RVL g F.m F.args vs→Calls P f vs.toArray w fun e w'=>∃ val,e = .returned val∧RV g F.m F.v val∧Like ng w w'∧∀ b,b<w.heap.size→w'.heap[b]?=w.heap[b]?):bD P T w0 ng f F:=by
 refine ⟨h1,by omega,fun x hx => .inr (h5 x hx),fun i hi=>(by rw [h2] at hi;cases hi),fun x hx=>(by rw [h3] at hx;cases hx),eY F.pre .lf,⟨hf,fun g hp w vs g1 g2 g3=>?_⟩,fun x hx=>(by rw [h3] at hx;cases hx),fun x hx _=>h6 x hx⟩;refine (h g hp w vs g1 g2 g3).mono ?_;rintro e w' ⟨val,rfl,hv,hl,hold⟩;rw [h4];exact ⟨g,hp,val,rfl,.idle g1 g2 hl hold,hv⟩
end
end Go.Sim
namespace Go.Proofs.YtpmapognbdiahaaGreatDoor
open Go Go.Sim
abbrev WM:={ w:World // ∃ m:Int,w.cell? ⟨0,0,none⟩=some (.int .i64 m) }
theorem WM.cell (w0:WM) {T:Nat→Abs.TE} {ng:Nat} {g:Gh} {hp:B→Option Sim.Obj} {nx:B} {w:World} (h:HR T w0 ng g hp nx w):∃ m:Int,w.cell? ⟨0,0,none⟩=some (.int .i64 m):=by
 obtain ⟨w0,m,hm⟩:=w0;refine ⟨m,?_⟩;rw [← hm];have hlt:0<w0.heap.size:=by
  rcases Nat.lt_or_ge 0 w0.heap.size with h | h
  ·exact h
  ·unfold World.cell? at hm;rw [Array.getElem?_eq_none h] at hm;cases hm
 have:=h.old _ hlt;unfold World.cell?;simp only at this ⊢;rw [this]
end Go.Proofs.YtpmapognbdiahaaGreatDoor
