/- Memory of the call's own: cells made, read and written. -/
import Derived.Test.YtpmapognbdiahaaGreatDoorAbsAAnd
set_option linter.all false
namespace Go.Abs
open Go Go.RowKit
section
variable {C:Ctx} {β:Nat→Value} {ok:Nat→Prop} {s:S} {a:Act} {w:World}
def patch (cur:Array Value) (o:Nat) (vs:List Value):Array Value:=(cur.toList.take o++vs++cur.toList.drop (o+vs.length)).toArray
theorem size_patch {cur:Array Value} {o:Nat} {vs:List Value} (h:o+vs.length≤cur.size):(patch cur o vs).size=cur.size:=by
 simp [patch];omega
theorem patch_out {cur:Array Value} {o:Nat} {vs:List Value} (h:o+vs.length≤cur.size) {i:Nat} (hi:i<o∨o+vs.length≤i):(patch cur o vs)[i]?=cur[i]?:=by
 simp only [patch,List.getElem?_toArray];rcases hi with hi | hi
 ·rw [List.append_assoc,List.getElem?_append_left (by simp;omega),List.getElem?_take_of_lt hi];simp
 ·rw [List.getElem?_append_right (by simp;omega),List.getElem?_drop];simp only [List.length_append,List.length_take,Array.length_toList];rw [show o+vs.length+(i-(min o cur.size+vs.length))=i by omega];simp
theorem patch_in {cur:Array Value} {o:Nat} {vs:List Value} (h:o+vs.length≤cur.size) {i:Nat} (hi:i<vs.length):(patch cur o vs)[o+i]?=vs[i]?:=by
 simp only [patch,List.getElem?_toArray];rw [List.append_assoc,List.getElem?_append_right (by simp;omega),List.getElem?_append_left (by simp;omega)];congr 1;simp;omega
end
section
variable {C:Ctx} {β:Nat→Value} {ok:Nat→Prop} {s:S} {a:Act} {w:World}
end
section
variable {P:Program}
theorem yP (w:World) (t ty e:TypeId) (i:TypeInfo) (z:Value) (ht:P.underlying t=some (.slice e)) (hi:P.info? e=some i) (hz:i.zero=some z) (hzs:z.cells.size=i.size)
  (a0:Option Addr) (n cap:Nat) (hn:n≤cap) (b o:Nat) (cur:Array Value) (T:TypeId)
  (hb:0<cap→a0=some ⟨b,o,none⟩∧w.heap[b]?=some (.cells cur T (0,0))∧o+cap*i.size≤cur.size)
  (m cx:Nat) (ax:Option Addr) (news:List Value) (hl:news.length=m*i.size) (h1:∀ u∈news,u.oneCell'=true)
  (hx:0<m→∃ ad,ax=some ad∧∀ j u,news[j]?=some u→w.cell? (ad.add j)=some u) (h63:n+m≤maxLen) (hbytes:(n+m)*i.bytes≤140737488355328) :
  (n+m≤cap∧(Builtin.append_ #[t,t] ty #[.slice a0 n cap,.slice ax m cx]).run P w = .ok (.slice a0 (n+m) cap) (if 0<m then w.setRow b (patch cur (o+n*i.size) news) else w)) ∨
  (cap<n+m∧∃ cap' rest,n+m≤cap'∧cap'≤maxLen∧(n+m)*i.size+rest.size=cap'*i.size ∧
   (Builtin.append_ #[t,t] ty #[.slice a0 n cap,.slice ax m cx]).run P w =
    .ok (.slice (some ⟨w.heap.size,0,none⟩) (n+m) cap') (w.drew.alloc (.cells (((List.range (n*i.size)).map fun q=>(cur[o+q]?).getD undef).toArray++news.toArray++rest) e))):=by
 by_cases hroom:n+m≤cap
 ·left;refine ⟨hroom,?_⟩;rcases Nat.eq_zero_or_pos m with hm | hm
  ·subst hm;have hnews:news=[]:=List.eq_nil_of_length_eq_zero (by simpa using hl);subst hnews;simp only [Nat.lt_irrefl,if_false];cases ax with
   | none=>cases a0<;>simp [Builtin.append_,run_underlying ht,Go.sizeOf,typeInfo,hi,Builtin.lenOf,hn,Builtin.firstCells,Go.storeCells]
   | some ax=>
     have hf:=run_firstCells_some (P:=P) w i.size 0 ax 0 cx [] (by simp) (by simp);cases a0<;>simp [Builtin.append_,run_underlying ht,Go.sizeOf,typeInfo,hi,Builtin.lenOf,hn,hf,Go.storeCells]
  ·obtain ⟨ad,rfl,hcell⟩:=hx hm;obtain ⟨rfl,hh,hs⟩:=hb (by omega);have hf:=run_firstCells_some (P:=P) w i.size m ad m cx news hl hcell;have hfit:o+n*i.size+0+news.length≤cur.size:=by
    have:=Nat.mul_le_mul_right i.size hroom;rw [Nat.add_mul] at this;omega
   have hst:=run_storeCells_at P b (o+n*i.size) T news 0 cur w hh hfit h1;simp only [Nat.add_zero] at hst;simp [Builtin.append_,run_underlying ht,Go.sizeOf,typeInfo,hi,Builtin.lenOf,hroom,hf,Addr.add_lit,hst,hm,patch]
 ·right;have hm:0<m:=by omega
  obtain ⟨ad,rfl,hcell⟩:=hx hm;have hge:=grownCap_ge w (n+m) cap e;have hcm:grownCap w (n+m) cap e≤maxLen:=grownCap_le_maxLen w (n+m) cap e h63;have hsmall:n+m≤9223372036854775807:=by simp only [maxLen] at h63;omega
  refine ⟨by omega,grownCap w (n+m) cap e,Builtin.zeroCells z.cells (grownCap w (n+m) cap e-(n+m)),hge,hcm,?_,?_⟩
  ·rw [size_zeroCells,hzs,← Nat.add_mul];congr 1;omega
  ·rcases Nat.eq_zero_or_pos cap with hc | hc
   ·subst hc;have hn0:n=0:=(by omega);subst hn0;simp only [Nat.zero_add,Nat.zero_mul,List.range_zero,List.map_nil,Array.empty_append];cases a0 with
    | none=>
      have:=run_append_nil (P:=P) w t ty e i z ht hi hz ad m cx news hl hcell hm (by omega) (by rw [Nat.zero_add] at hbytes;omega)
      simpa using this
    | some a0=>
      have:=run_append_grow (P:=P) w t ty e i z ht hi hz a0 0 0 [] (by simp) (by simp) ad m cx news hl hcell (by omega) (by omega) (growslice_fits (by omega) hbytes)
      simpa using this
   ·obtain ⟨rfl,hh,hs⟩:=hb hc;have holds:∀ j v,((List.range (n*i.size)).map fun q=>(cur[o+q]?).getD undef)[j]?=some v→w.cell? ((⟨b,o,none⟩:Addr).add j)=some v:=fun j v hv=>by
     simp only [List.getElem?_map,Option.map_eq_some_iff] at hv;obtain ⟨q,hq,rfl⟩:=hv;have hqlt:j<n*i.size:=(by have:=(List.getElem?_eq_some_iff.1 hq).1;simpa using this);have:q=j:=(by have:=(List.getElem?_eq_some_iff.1 hq).2;simp at this;exact this.symm);subst this;have:=Nat.mul_le_mul_right i.size hn;have hlt:o+q<cur.size:=(by omega);rw [Addr.add_lit,cell_of_row w b _ cur T (0,0) hh];simp [hlt]
    exact run_append_grow (P:=P) w t ty e i z ht hi hz ⟨b,o,none⟩ n cap _ (by simp) holds ad m cx news hl hcell (by omega) (by omega) (growslice_fits (by omega) hbytes)
end
section
variable {P:Program} {T:Nat→TE} {C:Ctx} {β:Nat→Value} {ok:Nat→Prop} {s:S} {a:Act} {w:World}
end
section
variable {P:Program} {T:Nat→TE}
def Py (op:BinOp) (b:Bool) (K:D→Prop):Prop:=
 match op with
 | .eql=>K (.bool b)
 | .neq=>K (.bool (!b))
 | _=>False
def KZ (op:BinOp) (ks:List SK) (x y:D) (K:D→Prop):Prop:=
 asAgg x fun cx=>asAgg y fun cy=>Bh (!ks.isEmpty) (Bh (fG ks cx) (Bh (fG ks cy) (Py op (aW cx cy) K)))
theorem yO (hT:TOK P T) {op:BinOp} {t:Nat} (hk:(T t).k.isAgg=true) {x y:D} {K:D→Prop} (h:KZ op (T t).ks x y K) (ox oy:Operand) :
  ∃ d,K d∧∀ (ok:Nat→Prop) (w:World) (vx vy:Value),RdD ok w vx x→RdD ok w vy y→∃ v,(do eqGuard op t ox oy vx vy;binOp op t vx vy).run P w = .ok v w∧RdD ok w v d:=by
 obtain ⟨cx,rfl,h'⟩:=AA h;obtain ⟨cy,rfl,h''⟩:=AA h';obtain ⟨h1,h4⟩:=qY h'';obtain ⟨h2,h5⟩:=qY h4;obtain ⟨h3,h⟩:=qY h5;obtain ⟨hg,hs⟩:=hT.keys (t:=t) (by intro e;rw [e] at hk;cases hk) (by intro e;rw [e] at h1;cases h1);have hag:kP P t=true:=by
  obtain ⟨d,i,hf⟩:=hT.facts (t:=t) (by intro e;rw [e] at hk;cases hk);have hd:=hf.k;unfold kP;rw [hf.und];cases d<;>first | rfl | (rw [hd] at hk;simp [kOf,TK.isAgg] at hk)
 have main:∀ (ok:Nat→Prop) (w:World) (vx vy:Value),RdD ok w vx (.agg cx)→RdD ok w vy (.agg cy)→(Op.equal t vx vy).run P w = .ok (aW cx cy) w∧(∀ op,(eqGuard op t ox oy vx vy).run P w = .ok () w)∧(∃ xs,vx = .agg xs)∧∃ ys,vy = .agg ys:=by
  intro ok w vx vy hx hy;have:=(vZ 9994 6 t _ hs ok w vx vy _ _ hx hy (by simp [Shape,hag,D.one]) (by simp [Shape,hag,D.one]) h2 h3).1;cases hx;cases hy;refine ⟨this,fun op=>?_,⟨_,rfl⟩,⟨_,rfl⟩⟩;cases op<;>simp [eqGuard,hg]
 cases op<;>simp only [Py] at h<;>try exact h.elim
 ·refine ⟨_,h,fun ok w vx vy hx hy=>?_⟩;obtain ⟨e1,e2,⟨xs,rfl⟩,⟨ys,rfl⟩⟩:=main ok w vx vy hx hy;exact ⟨.bool (aW cx cy),by simp [e2,binOp,e1],.bool _⟩
 ·refine ⟨_,h,fun ok w vx vy hx hy=>?_⟩;obtain ⟨e1,e2,⟨xs,rfl⟩,⟨ys,rfl⟩⟩:=main ok w vx vy hx hy;exact ⟨.bool (!aW cx cy),by simp [e2,binOp,e1],.bool _⟩
end
def TE.known (e:TE):Bool:=match e.k with | .none=>false | _=>true
section
variable {P:Program} {T:Nat→TE}
theorem TE.bg {e:TE} (h:e.known=true):e.k ≠ .none:=by
 intro e0;unfold TE.known at h;rw [e0] at h;cases h
end
end Go.Abs
