/- Maps of the call's own: made, read, written; the evaluators. -/
import Derived.Test.YtbhfbliodeagmaaGreatDoorAbsJAnd
set_option linter.all false
namespace Go.Abs
open Go Go.RowKit
def bQ (w:World) (r:Nat) (o:Obj):World:={ w with heap:=w.heap.setIfInBounds r o }
theorem eY (w:World) (r b:Nat) (o:Obj) (h:b≠r):(bQ w r o).heap[b]?=w.heap[b]?:=by
 simp [bQ,Ne.symm h]
theorem uh (w:World) (r:Nat) (o:Obj) (h:r<w.heap.size):(bQ w r o).heap[r]?=some o:=by
 simp [bQ,h]
section
variable {C:Ctx} {β:Nat→Value} {ok:Nat→Prop} {s:S} {a:Act} {w:World}
end
section
variable {P:Program} {T:Nat→TE}
theorem TOK.map (hT:TOK P T) {t k e:Nat} (hk:(T t).k = .map k e):P.underlying t=some (.map k e):=by
 obtain ⟨d,i,h⟩:=hT.facts (t:=t) (by rw [hk];intro e;cases e)
 have hd:=h.k
 rw [hk] at hd
 rw [jB.2.2.2.2.2 k e hd.symm] at h
 exact h.und
end
end Go.Abs
