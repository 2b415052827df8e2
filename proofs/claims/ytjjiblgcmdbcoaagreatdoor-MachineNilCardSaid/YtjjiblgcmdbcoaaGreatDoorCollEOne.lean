/- slices.AppendSeq, slices.Collect at Edge, over maps.Keys: a new slice that holds every key once, in some order. -/
import Derived.Test.YtjjiblgcmdbcoaaGreatDoorKeysEOne
import Derived.RangeFuncNested
import Derived.RangeFuncBound
import Derived.RangeFuncCalls
import Derived.RangeFuncLeaves
import Derived.RangeFuncBox
import Derived.Maps.AppendAt
import Derived.Shelf.Abstract
set_option linter.unusedVariables false
set_option linter.unusedSimpArgs false
namespace Go.Proofs
open Go.RowKit Go.Sort Go.Keys Go.Shelf
attribute [local go_sem] Oper.semAt_some

def cellsE (e : List UInt8 × List UInt8 × Bool) : List Value := [encStr e.1, encStr e.2.1, .bool e.2.2]
/-- Block B holds an edge. -/
def BoxE (W : World) (B : Nat) (e : List UInt8 × List UInt8 × Bool) : Prop := W.heap[B]? = some (.cells (cellsE e).toArray 214 (0, 0))
theorem boxE_own (B : Nat) (e : List UInt8 × List UInt8 × Bool) (p : Prop) : Own (fun (_ : Unit) W => BoxE W B e ∧ p) := fun s X Y row hs hg hrow =>
  ⟨(hg.block B (Array.getElem?_eq_some_iff.1 hs.1).1 (fun e' => by obtain ⟨o, ho, hc⟩ := hrow B e'.symm; rw [show X.heap[B]? = _ from hs.1] at ho; cases ho; cases hc)).trans hs.1, hs.2⟩
theorem BoxE.cells {W : World} {B : Nat} {e : List UInt8 × List UInt8 × Bool} (h : BoxE W B e) : W.cell? ⟨B, 0, none⟩ = some (encStr e.1) ∧ W.cell? ⟨B, 1, none⟩ = some (encStr e.2.1) ∧ W.cell? ⟨B, 2, none⟩ = some (.bool e.2.2) := by
  have h : W.heap[B]? = some (.cells #[encStr e.1, encStr e.2.1, .bool e.2.2] 214 (0, 0)) := h
  simp [World.cell?, h]

theorem cellsE_one (e : List UInt8 × List UInt8 × Bool) : ∀ u ∈ cellsE e, u.oneCell' = true := by
  intro u hu
  simp [cellsE] at hu
  rcases hu with rfl | rfl | rfl <;> rfl
theorem cell_of_row {W : World} {b : Nat} {c : Array Value} {t : TypeId} {fz : Nat × Nat} (h : W.heap[b]? = some (.cells c t fz)) (j : Nat) : W.cell? ((⟨b, 0, none⟩ : Addr).add j) = c[j]? := by
  by_cases h0 : j = 0
  · subst h0; simp [World.cell?, Addr.add, h]
  · simp [World.cell?, Addr.add, h, h0]
theorem cell_three_new (w : World) (e : List UInt8 × List UInt8 × Bool) (t : TypeId) : ∀ j u, (cellsE e)[j]? = some u → (w.alloc (.cells (cellsE e).toArray t)).cell? ((⟨w.heap.size, 0, none⟩ : Addr).add j) = some u := by
  intro j u hj
  rw [cell_of_row (World.alloc_heap_new w _)]; simpa using hj

theorem Tryz.infoE : (Tryz.prog.info? 214).map (fun i => (i.zero, i.size, i.bytes)) = some (some (encE ([], [], false)), 3, 40) := by kernel_rfl

set_option maxRecDepth 100000 in
set_option maxHeartbeats 2000000 in
theorem Tryz.appendSeqE (F : Fence) (n : Nat) (hf : F.fn 252) (hfk : F.fn 232) (hro : F.round = none) (hn : 2 ≤ n) (p : Addr) (b : Nat) (es : Array MapEntry) (clock : Nat) (kv : Fin es.size → List UInt8 × List UInt8 × Bool) (hkv : ∀ i : Fin es.size, es[i].key = encE (kv i))
    (hst : (∀ m ∈ es.toList, m.born < clock) ∧ (es.toList.map (·.born)).Nodup) (hN : es.size ≤ maxLen) (hNb : es.size * 40 ≤ 140737488355328) (w : World) (hm : w.cell? p = some (.map (some b))) (hb : w.heap[b]? = some (.map es clock)) :
    CallsIn F n Tryz.prog 252 #[.slice none 0 0, .func (.func 232) #[] #[.pointer (some p)]] w fun e w' =>
      ∃ (v : Value) (xs : List (Fin es.size)), e = .returned v ∧ xs.Perm (List.finRange es.size) ∧ w'.ownsRow w.heap.size 214 3 v xs.length ((xs.map kv).flatMap cellsE) ∧ Below w.heap.size w w' := by
  have h1 : 1 ≤ n := by omega
  have hpl : p.block < w.heap.size := by
    unfold World.cell? at hm
    cases ho : w.heap[p.block]? with
    | none => simp [ho] at hm
    | some o => exact (Array.getElem?_eq_some_iff.1 ho).1
  have hbl : b < w.heap.size := (Array.getElem?_eq_some_iff.1 hb).1
  refine callsIn_of_wp_marks Tryz.func252 rfl hf ?_ hro
  simp only [Tryz.ntmps252, List.size_toArray, List.length_cons, List.length_nil, Nat.reduceAdd, Nat.reduceSub, Array.replicate_succ, Array.replicate_zero, List.push_toArray, List.append_toArray, List.nil_append, List.cons_append]
  gi_wp2
  obtain ⟨W0, hW0⟩ : ∃ W0, w.alloc (.cells #[.slice none 0 0] 207) = W0 := ⟨_, rfl⟩
  have hs0 : W0.heap.size = w.heap.size + 1 := by rw [← hW0]; simp
  have hv0 : Boxed W0 w.heap.size 207 (.slice none 0 0) := by rw [← hW0]; exact Boxed.new w _ _
  have hb0 : Below w.heap.size w W0 := by rw [← hW0]; exact (Below.refl _ w).alloc (Nat.le_refl _) _
  have hne : (207 : TypeId) ≠ 214 := by decide
  obtain ⟨i0, hi, hz0, hz1, hz2⟩ := info_parts Tryz.infoE
  rw [hW0]
  refine wpIn_rangeFunc_ownH hro h1 (gf := 232) (lb := #[.pointer (some p)]) rfl hfk (enters_of Tryz.func232 (by kernel_rfl) rfl)
    (Tryz.keysE_stops F (n - 1) hfk hro (by omega) p b es clock kv hkv hst W0 ((hb0.cell hpl).trans hm) ((hb0.block b hbl).trans hb)) walksK_t walksK_b (Below.refl _ _) (fun _ => rfl)
    (fun pre W => (∃ v, Boxed W w.heap.size 207 v ∧ W.ownsRow w.heap.size 214 3 v pre.length ((pre.map kv).flatMap cellsE) ∧ True) ∧ Below w.heap.size w W) (fun _ _ _ => False)
    (OwnFrom.and (Own.from (holdsRow_own w.heap.size w.heap.size 207 214 3 (fun pre : List (Fin es.size) => pre.length) (fun pre => (pre.map kv).flatMap cellsE) (fun _ _ => True)) _) (ownFrom_below (Nat.le_refl _) (by omega)))
    (fun _ _ _ _ _ h _ _ => h.elim) ⟨⟨_, hv0, ⟨rfl, .inl ⟨rfl, rfl⟩⟩, trivial⟩, hb0⟩
    (fun x a' W => ∃ Bx, BoxE W Bx (kv x) ∧ (Bx ≠ w.heap.size ∧ a' = { tmps := #[.slice none 0 0, .func (.func 232) #[] #[.pointer (some p)],
          .pointer (some { block := w.heap.size, off := 0 }), undef, .slice none 0 0, .pointer (some ⟨Bx, 0, none⟩), .func (.func 232) #[] #[.pointer (some p)], encE (kv x), undef, undef, undef, undef, undef], defers := [] }))
    (fun x a' _ A B row hs hg hr => by obtain ⟨Bx, h1, h2⟩ := hs; obtain ⟨h1, h2⟩ := (boxE_own Bx (kv x) _).from _ () A B row ⟨h1, h2⟩ hg hr; exact ⟨Bx, h1, h2⟩) ?assign ?body ?done ?stop
  case assign =>
    rintro l pre x W K ⟨⟨v, hv, hr, _⟩, hB⟩ hK
    simp only [encE]
    gi_wp2
    exact hK _ _ ((KeepsOthers.alloc W _).from _) (KeepsWalks.alloc W _) ⟨⟨v, hv.alloc _, hr.alloc _, trivial⟩, hB.trans ((Below.refl _ W).alloc hB.size _)⟩ ⟨W.heap.size, World.alloc_heap_new W _, by have := hv.lt; omega, rfl⟩
  case body =>
    rintro l pre x a' W hl ⟨r, hr⟩ ⟨⟨v, hv, hrow, _⟩, hB⟩ ⟨Bx, hx, hBx, rfl⟩ hlt
    have hc := hv.cell
    obtain ⟨hx0, hx1, hx2⟩ := hx.cells
    gi_wp2_with (first
      | (gi_at_builtin; refine wpListIn_append_own _ rfl _ _ 207 rfl w.heap.size 214 i0 (encE ([], [], false)) 3 40 Tryz.underlying207 hi hz0 hz1 hz2 rfl (by decide) _ _ _ rfl (hrow.alloc _) ⟨W.heap.size, 0, none⟩ 1 1 (cellsE (kv x)) rfl rfl (cell_three_new _ _ _) (cellsE_one _) (by omega) (by omega) (by have := hB.size; simp; omega) ?_; intro v' w1 hown' hgrow _; obtain ⟨g', cap', rfl⟩ := ownsRow_succ hown'; obtain ⟨hv1, hv2, hr2, hk2, hb2⟩ := hv.appended hne hrow hB.size (Nat.le_refl _) hown' hgrow; have hc1 := hv1.cell; have hf1 := hv1.frozen)
      | gi_in)
    exact ⟨hk2.from _, hk2.walks, ⟨⟨_, hv2, by simpa using hr2, trivial⟩, hB.trans hb2⟩⟩
  case done =>
    rintro D xs W hD hS ⟨⟨v, hv, hrow, _⟩, hB⟩ hK
    have hc := hv.cell
    gi_wp2
    refine ⟨by simp, .inl ⟨_, _, rfl, run_takeDeferred hK, ?_⟩⟩
    refine ⟨_, results_tmp rfl _ _ _, v, xs, rfl, hS, ownsRow_putObj hrow _ hK rfl, hB.trans (belowK_b (w := w) (Nat.le_refl _) W D _ _ (by omega) hK rfl rfl)⟩
  case stop =>
    rintro D c pre W hD _ h _
    exact h.elim
end Go.Proofs
