/- maps.Keys' iterator, keys of the type Edge: every key once, in some order. -/
import Derived.Test.YtjjiblgcmdbcoaaGreatDoorKeysROne
import Derived.Test.YtjjiblgcmdbcoaaGreatDoorProg
import Derived.Shelf.AbstractIn
import Derived.RangeFuncSeq
import Derived.RangeFuncKeeps
import Derived.Sort.MapsRangeIn
import Derived.WalkKit
import Derived.OwnWalkIn
import Derived.TacticsInMore
import Derived.RegionIn
import Derived.LoopNIn
import Derived.LoopIn
import Derived.Sort.EncStr
set_option linter.unusedVariables false
set_option linter.unusedSimpArgs false
namespace Go.Proofs
open Go.RowKit Go.Sort Go.Keys

/-- An edge as a value. -/
def encE (e : List UInt8 × List UInt8 × Bool) : Value := .agg #[encStr e.1, encStr e.2.1, .bool e.2.2]

set_option maxRecDepth 100000 in
set_option maxHeartbeats 1000000 in
theorem Tryz.keysE1 (F : Fence) (n : Nat) (hf : F.fn 232) (hro : F.round = none) (hn : 1 ≤ n) (l : Nat) (p : Addr) (b : Nat) (es : Array MapEntry) (clock : Nat) (kv : Fin es.size → List UInt8 × List UInt8 × Bool) (hkv : ∀ i : Fin es.size, es[i].key = encE (kv i))
    (hst : (∀ m ∈ es.toList, m.born < clock) ∧ (es.toList.map (·.born)).Nodup) (J Jx : List (Fin es.size) → World → Prop)
    (hY : ∀ pre x W, J pre W → pre.length < es.size → YieldAt F (n - 1) Tryz.prog l #[encE (kv x)] W fun e W' => (e = .returned (.bool true) ∧ J (pre ++ [x]) W' ∧ KeepsWalks W W') ∨ (e = .returned (.bool false) ∧ Jx (pre ++ [x]) W'))
    (W : World) (hJ : AbidesFrom W.heap.size J) (hm : W.cell? p = some (.map (some b))) (hb : W.heap[b]? = some (.map es clock)) (h0 : J [] W) :
    CallsIn F n Tryz.prog 232 #[.func (.yield l) #[] #[], .pointer (some p)] W fun e W' => (∃ v, e = .returned v) ∧ ((∃ xs : List (Fin es.size), xs.Perm (List.finRange es.size) ∧ J xs W') ∨ ∃ pre, True ∧ Jx pre W') := by
  refine callsIn_of_wp Tryz.func232 rfl hf ?_ hro
  simp only [Tryz.ntmps232, List.size_toArray, List.length_cons, List.length_nil, Nat.reduceAdd, Nat.reduceSub, Array.replicate_succ, Array.replicate_zero, List.push_toArray, List.append_toArray, List.nil_append, List.cons_append]
  have hbl : b < W.heap.size := (Array.getElem?_eq_some_iff.1 hb).1
  gi_wp2_with (first
    | (gi_at_range; refine wpListIn_range_raw _ rfl _ 265 rfl 214 4 Tryz.underlying265 b es clock rfl hb ?_)
    | gi_in)
  have hU0 : Under es clock b W.heap.size [] (W.alloc (.mapIter (some b) clock #[] clock)) := ⟨(Below.heap_alloc _ _ b hbl).trans hb, #[], World.alloc_heap_new W _, ⟨List.nodup_nil, rfl⟩⟩
  have hJ0 : J [] (W.alloc (.mapIter (some b) clock #[] clock)) := hJ _ _ _ none h0 (World.grownBy_alloc W _ none) (fun r e => by cases e)
  generalize W.alloc (.mapIter (some b) clock #[] clock) = W0 at hU0 hJ0 ⊢
  go_frame
  gi_loopw [3] (fun _ wr => ∃ xs : List (Fin es.size), Under es clock b W.heap.size xs wr ∧ J xs wr)
    (fun _ wr => leftN es.size W.heap.size wr)
  case atStart => exact ⟨[], hU0, hJ0⟩
  case round =>
    obtain ⟨xs, hU, hJs⟩ := hrel
    gi_wp2_with (first
      | (gi_at_next; refine wpListIn_next_raw _ rfl _ rfl es clock b W.heap.size xs hst rfl hU (by omega) ?_ ?_)
      | gi_in)
    · intro hall
      gi_wp2
      go_end0
      obtain ⟨seen, _, hs⟩ := hU.iter
      exact ⟨⟨_, rfl⟩, .inl ⟨xs, fin_perm hs.nd hall, hJs⟩⟩
    · intro x w2 hx hU2 hg2 hs2 hen
      have hJ2 : J xs w2 := hJ xs wr w2 (some W.heap.size) hJs hg2 (fun r e => by cases e; exact ⟨Nat.le_refl _, hU.walk⟩)
      have hlt := hU.lt hx
      have hkx : es[x.1].key = encE (kv x) := hkv x
      rw [hkx] at hen ⊢
      unfold encE at hen ⊢
      clear hs2
      have hJ4 := hJ xs w2 (w2.alloc (.cells #[.string ⟨(kv x).1.toArray⟩, .string ⟨(kv x).2.1.toArray⟩, .bool (kv x).2.2] 214)) none hJ2 (World.grownBy_alloc w2 _ none) (fun r e => by cases e)
      have hU4 := hU2.of_walks (KeepsWalks.alloc w2 (.cells #[.string ⟨(kv x).1.toArray⟩, .string ⟨(kv x).2.1.toArray⟩, .bool (kv x).2.2] 214))
      obtain ⟨fn, tmps, assign, body, hy, hR⟩ := hY xs x _ hJ4 hlt
      simp only [encE, encStr] at hy
      gi_wp2
      refine hR.mono ?_
      rintro e W3 (⟨rfl, hJ3, hk3⟩ | ⟨rfl, hx3⟩)
      · gi_wp2
        have hU3 := hU4.of_walks hk3
        go_roundw
        case rel => exact ⟨xs ++ [x], hU3, hJ3⟩
        case measure => rw [hU3.leftN_eq, hU.leftN_eq]; simp; omega
      · gi_wp2
        (try simp only [Exit.inBlock, Exit.then])
        refine bodyPost_ret (results_none rfl _ _ _) rfl ?_
        exact ⟨⟨_, rfl⟩, .inr ⟨_, trivial, hx3⟩⟩

theorem Tryz.keysE_stops (F : Fence) (n : Nat) (hf : F.fn 232) (hro : F.round = none) (hn : 1 ≤ n) (p : Addr) (b : Nat) (es : Array MapEntry) (clock : Nat) (kv : Fin es.size → List UInt8 × List UInt8 × Bool) (hkv : ∀ i : Fin es.size, es[i].key = encE (kv i))
    (hst : (∀ m ∈ es.toList, m.born < clock) ∧ (es.toList.map (·.born)).Nodup) (w : World) (hm : w.cell? p = some (.map (some b))) (hb : w.heap[b]? = some (.map es clock)) :
    SeqStopsK F n Tryz.prog 232 #[.pointer (some p)] (fun i : Fin es.size => #[encE (kv i)]) KeepsWalks (fun xs => xs.Perm (List.finRange es.size)) (fun _ => True) es.size w := by
  intro l J Jx W hW hJ hJx hY h0
  have hp : p.block < w.heap.size := by
    unfold World.cell? at hm
    cases ho : w.heap[p.block]? with
    | none => simp [ho] at hm
    | some o => exact (Array.getElem?_eq_some_iff.1 ho).1
  exact Tryz.keysE1 F n hf hro hn l p b es clock kv hkv hst J Jx hY W hJ ((hW.cell hp).trans hm) ((hW.block b (Array.getElem?_eq_some_iff.1 hb).1).trans hb) h0
end Go.Proofs
