/- Sim: facts out of contracts that are proved by hand; strings.Cut. -/
import Derived.Test.YtbhfbliodeagmaaGreatDoorSimDOne
import Derived.Test.YtbhfbliodeagmaaGreatDoorSimTabOne
import Derived.Test.YtbhfbliodeagmaaGreatDoorCutCOne
set_option linter.all false
namespace Go.Sim
open Go Go.RowKit
open Go.Abs (TE TK SK TOK)
theorem nG {g:Gh} {n:Nat} (s:List UInt8) {x:Value} {l m:Nat} (hl:s.length=l) (hm:aU s=m) (h:RV g n (.str l m) x):x = .string ⟨s.toArray⟩:=by
 cases h with
 | str s' _=>rw [nX hl hm]
theorem lg {g:Gh} {n:Nat} (s:List UInt8) {l m:Nat} (hl:s.length=l) (hm:aU s=m) (h:l≤maxL):RV g n (.str l m) (.string ⟨s.toArray⟩):=by
 subst hl;subst hm;exact .str s h
section
variable {P:Program} {T:Nat→TE} {w0:World} {ng:Nat}
theorem sQ {f:Nat} {F:Fact} (hf:∃ fn,P.funcs[f]?=some fn∧(fn.name == "runtime.NumGoroutine")=false∧fn.body.isNone=false) (h1:ng≤F.m) (h2:F.gone=[]) (h3:F.post=[]) (h4:F.n=F.m) (h5:∀ x∈F.pre,x.1∈F.same)
  (h6:∀ x∈F.pre,∃ o1,(bOf x.1).get (eF F.pre .lf)=some o1∧x.2.In o1)
  (h:∀ g hp w vs,HR T w0 ng g hp ⟨F.m⟩ w→Sub (eF F.pre .lf) hp→RVL g F.m F.args vs→Calls P f vs.toArray w fun e w'=>∃ val,e = .returned val∧RV g F.m F.v val∧Like ng w w'∧∀ b,b<w.heap.size→w'.heap[b]?=w.heap[b]?):aZ P T w0 ng f F:=by
 refine ⟨h1,by omega,fun x hx => .inr (h5 x hx),fun i hi=>(by rw [h2] at hi;cases hi),fun x hx=>(by rw [h3] at hx;cases hx),eF F.pre .lf,⟨hf,fun g hp w vs g1 g2 g3=>?_⟩,fun x hx=>(by rw [h3] at hx;cases hx),fun x hx _=>h6 x hx⟩
 refine (h g hp w vs g1 g2 g3).mono ?_
 rintro e w' ⟨val,rfl,hv,hl,hold⟩
 rw [h4]
 exact ⟨g,hp,val,rfl,.idle g1 g2 hl hold,hv⟩
end
end Go.Sim
namespace Go.Proofs.YtbhfbliodeagmaaGreatDoor
open Go Go.Sim
abbrev WM:={ w:World // ∃ m:Int,w.cell? ⟨0,0,none⟩=some (.int .i64 m) }
theorem WM.cell (w0:WM) {T:Nat→Abs.TE} {ng:Nat} {g:Gh} {hp:B→Option Sim.Obj} {nx:B} {w:World} (h:HR T w0 ng g hp nx w):∃ m:Int,w.cell? ⟨0,0,none⟩=some (.int .i64 m):=by
 obtain ⟨w0,m,hm⟩:=w0
 refine ⟨m,?_⟩
 rw [← hm]
 have hlt:0<w0.heap.size:=by
  rcases Nat.lt_or_ge 0 w0.heap.size with h | h
  ·exact h
  ·unfold World.cell? at hm
   rw [Array.getElem?_eq_none h] at hm
   cases hm
 have:=h.old _ hlt
 unfold World.cell?
 simp only at this ⊢
 rw [this]
noncomputable def ahk:List Fact:=[⟨[(.str 5 512735409210),(.str 2 14880)],[],6,(.tup [(.str 5 512735409210),(.str 0 0),(.bool false)]),[],[],[],6⟩,⟨[(.str 6 131260264757792),(.str 2 14880)],[],6,(.tup [(.str 4 2002872692),(.str 0 0),(.bool true)]),[],[],[],6⟩]
theorem aaW (w0:WM) (s x:List UInt8) (b:Bool) (ls ms lx mx:Nat) (hs:s.length=ls) (hm:aU s=ms) (hx:x.length=lx) (hn:aU x=mx) (hc:Lib.cut s [58,32]=(x,[],b)) (h1:ls<100) (h2:lx<100) :
  aZ Tryz.prog T w0 6 102 ⟨[.str ls ms,.str 2 14880],[],6,.tup [.str lx mx,.str 0 0,.bool b],[],[],[],6⟩:=by
 refine sQ ⟨_,Tryz.func102,by kernel_rfl,rfl⟩ (Nat.le_refl _) rfl rfl rfl (fun x hx=>(by cases hx)) (fun x hx=>(by cases hx)) fun g hp w vs g1 g2 g3=>?_
 obtain ⟨u1,vs,rfl,hu1,g3⟩:=g3.inv
 obtain ⟨u2,vs,rfl,hu2,g3⟩:=g3.inv
 have:=g3.iI
 subst this
 obtain rfl:=nG s hs hm hu1
 obtain rfl:=nG [58,32] rfl (by decide) hu2
 obtain ⟨m,hcell⟩:=WM.cell w0 g1
 refine (Tryz.anW ⟨s.toArray⟩ m w (by simp [ByteArray.size];omega) hcell).mono ?_
 rintro e w' ⟨rfl,n,rfl⟩
 simp only [hc]
 refine ⟨_,rfl,.tup _ _ rfl fun i c v hc hv=>?_,⟨rfl,rfl,rfl,Nat.le_refl _,fun h=>by cases h⟩,fun _ _=>rfl⟩
 match i,hc,hv with
 | 0,hc,hv=>simp at hc hv;subst hc;subst hv;exact lg x hx hn (by simp only [maxL];omega)
 | 1,hc,hv=>simp at hc hv;subst hc;subst hv;exact lg [] rfl rfl (by simp only [maxL];omega)
 | 2,hc,hv=>simp at hc hv;subst hc;subst hv;exact .bool b
 | i+3,hc,hv=>simp at hc
theorem VI (w0:WM):∀ F∈ahk,aZ Tryz.prog T w0 6 102 F:=
 aJ (aaW w0 [119,97,105,116,58] [119,97,105,116,58] false _ _ _ _ rfl (by decide) rfl (by decide) (by decide) (by decide) (by decide)) (aJ (aaW w0 [119,97,105,116,58,32] [119,97,105,116] true _ _ _ _ rfl (by decide) rfl (by decide) (by decide) (by decide) (by decide)) oO)
end Go.Proofs.YtbhfbliodeagmaaGreatDoor
