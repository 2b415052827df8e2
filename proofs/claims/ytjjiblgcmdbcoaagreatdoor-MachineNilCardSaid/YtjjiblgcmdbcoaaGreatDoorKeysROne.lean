/- A range over a map's entries as they lie, inside a fence; what the rounds have handed out is kept as a list of places. -/
import Derived.Maps.RangeRun
import Derived.Sort.MapsRangeIn
import Derived.RangeFuncGives
import Derived.RangeFuncSeq
set_option linter.unusedVariables false
set_option linter.unusedSimpArgs false
namespace Go.Keys
open Go Go.RowKit Go.ChangeMaps

section
variable {F : Fence} {n : Nat} {P : Program} (w : World) {ops : Array Oper} {rest : List Oper} {o : Oper} {a : Act} {Q : Exit → Act → World → Prop}

theorem wpListIn_range_raw (hg : o.guard = none) (m : Operand) (t : TypeId) (hop : o.op = Op.range t m) (k e : TypeId) (ht : P.underlying t = some (.map k e)) (b : Nat) (es : Array MapEntry) (clock : Nat)
    (hm : a.eval m = .map (some b)) (hb : w.heap[b]? = some (.map es clock))
    (hK : wpListIn F n P ops Q rest (a.put o.dst (.pointer (some ⟨w.heap.size, 0, none⟩))) (w.alloc (.mapIter (some b) clock #[] clock))) :
    wpListIn F n P ops Q (o :: rest) a w := by
  refine wpListIn_plain hg fun K' hK' => ?_
  unfold Oper.wpIn
  refine ⟨by simp [Oper.about, hop], ?_⟩
  rw [Oper.semAt_plain F _ _ (by rw [hop]; intro c hc'; cases hc')]
  simp [execOp, hop, hm, run_range_map w t k e b es clock ht hb, Result.andThen]
  exact hK' _ _ hK

/-- What has been handed out: places of entries, none twice. -/
structure Seen (es : Array MapEntry) (seen : Array Nat) (xs : List (Fin es.size)) : Prop where
  nd : xs.Nodup
  eq : seen.toList = xs.map fun i => es[i].born

/-- The iterator lies in block r. -/
structure Under (es : Array MapEntry) (clock b r : Nat) (xs : List (Fin es.size)) (w : World) : Prop where
  map : w.heap[b]? = some (.map es clock)
  iter : ∃ seen, w.heap[r]? = some (.mapIter (some b) clock seen clock) ∧ Seen es seen xs

theorem Under.of_walks {es : Array MapEntry} {clock b r : Nat} {xs : List (Fin es.size)} {w w' : World} (h : Under es clock b r xs w) (hk : KeepsWalks w w') : Under es clock b r xs w' := by
  obtain ⟨seen, h1, h2⟩ := h.iter
  exact ⟨hk.same b _ h.map rfl, seen, hk.same r _ h1 rfl, h2⟩
theorem Under.walk {es : Array MapEntry} {clock b r : Nat} {xs : List (Fin es.size)} {w : World} (h : Under es clock b r xs w) : ∃ o : Obj, w.heap[r]? = some o ∧ o.isWalk = true := by
  obtain ⟨seen, h1, h2⟩ := h.iter
  exact ⟨_, h1, rfl⟩

theorem fin_le {n : Nat} {xs : List (Fin n)} (h : xs.Nodup) : xs.length ≤ n := by
  have := (List.nodup_finRange n)
  have h1 : xs.Perm ((List.finRange n).filter fun i => decide (i ∈ xs)) := (List.perm_ext_iff_of_nodup h (this.filter _)).2 fun i => by simp
  have h2 := List.length_filter_le (fun i => decide (i ∈ xs)) (List.finRange n)
  rw [← h1.length_eq] at h2
  simpa using h2
theorem fin_perm {n : Nat} {xs : List (Fin n)} (h : xs.Nodup) (ha : ∀ i, i ∈ xs) : xs.Perm (List.finRange n) :=
  (List.perm_ext_iff_of_nodup h (List.nodup_finRange n)).2 fun i => ⟨fun _ => List.mem_finRange i, fun _ => ha i⟩

/-- THE STEP. -/
theorem wpListIn_next_raw (hg : o.guard = none) (it : Operand) (hop : o.op = Op.next it false) (es : Array MapEntry) (clock b r : Nat) (xs : List (Fin es.size))
    (hst : (∀ m ∈ es.toList, m.born < clock) ∧ (es.toList.map (·.born)).Nodup)
    (hit : a.eval it = .pointer (some ⟨r, 0, none⟩)) (h : Under es clock b r xs w) (hbr : b ≠ r)
    (hDone : (∀ i, i ∈ xs) → wpListIn F n P ops Q rest (a.put o.dst (.tuple #[.bool false])) w)
    (hMore : ∀ (i : Fin es.size) (w' : World), i ∉ xs → Under es clock b r (xs ++ [i]) w' → w.grownBy w' (some r) → w'.heap.size = w.heap.size →
      (Instr.entry (.pointer (some ⟨r, 0, none⟩))).run P w' = .ok (.tuple #[es[i].key, es[i].val]) w' → wpListIn F n P ops Q rest (a.put o.dst (.tuple #[.bool true, es[i].key, es[i].val])) w') :
    wpListIn F n P ops Q (o :: rest) a w := by
  refine wpListIn_plain hg fun K' hK' => ?_
  unfold Oper.wpIn
  refine ⟨by simp [Oper.about, hop], ?_⟩
  rw [Oper.semAt_plain F _ _ (by rw [hop]; intro c hc'; cases hc')]
  obtain ⟨seen, h1, h2⟩ := h.iter
  have hrl : r < w.heap.size := (Array.getElem?_eq_some_iff.1 h1).1
  rcases run_next_at (P := P) w o.type r b clock clock seen es clock h1 h.map hst.1 (Nat.le_refl _) with ⟨h0, hrun⟩ | ⟨e, he, w1, hw1, hrun⟩
  · simp [execOp, hop, hit, hrun, Result.andThen]
    refine hK' _ _ (hDone fun i => ?_)
    have hi : es[i].born ∈ seen.toList := by
      apply Decidable.by_contra
      intro hn
      have hm : es[i] ∈ leftOf es seen := by
        unfold leftOf
        rw [Array.mem_filter]
        refine ⟨by simp, ?_⟩
        simpa using hn
      rw [Array.eq_empty_of_size_eq_zero h0] at hm
      simp at hm
    rw [h2.eq] at hi
    obtain ⟨j, hj, hjb⟩ := List.mem_map.1 hi
    have : j = i := by
      have hnd := hst.2
      rw [List.nodup_iff_pairwise_ne, List.pairwise_map] at hnd
      rw [List.pairwise_iff_getElem] at hnd
      apply Decidable.by_contra
      intro hne
      rcases Nat.lt_or_gt_of_ne (fun e => hne (Fin.ext e)) with hlt | hlt
      · exact hnd j.1 i.1 (by simp) (by simp) hlt (by simpa using hjb)
      · exact hnd i.1 j.1 (by simp) (by simp) hlt (by simpa using hjb.symm)
    subst this
    exact hj
  · have hel : e ∈ es ∧ e.born ∉ seen := by
      have he' : e ∈ leftOf es seen := by simpa using he
      unfold leftOf at he'
      rw [Array.mem_filter] at he'
      exact ⟨he'.1, by simpa using he'.2⟩
    obtain ⟨i, hi, rfl⟩ := Array.getElem_of_mem hel.1
    simp [execOp, hop, hit, hrun, Result.andThen]
    have hnew : (⟨i, hi⟩ : Fin es.size) ∉ xs := fun hx => hel.2 (by
      have : es[i].born ∈ seen.toList := by rw [h2.eq]; exact List.mem_map.2 ⟨⟨i, hi⟩, hx, rfl⟩
      simpa using this)
    have hw1h : w1.heap = w.heap := by rcases hw1 with rfl | rfl <;> rfl
    have hset : (setBlock w1 r (.mapIter (some b) clock (seen.push es[i].born) clock)).heap = w.heap.setIfInBounds r (.mapIter (some b) clock (seen.push es[i].born) clock) := by
      show w1.heap.setIfInBounds _ _ = _
      rw [hw1h]
    have hr2 : (setBlock w1 r (.mapIter (some b) clock (seen.push es[i].born) clock)).heap[r]? = some (.mapIter (some b) clock (seen.push es[i].born) clock) := by
      rw [hset]; simp [hrl]
    have hb2 : (setBlock w1 r (.mapIter (some b) clock (seen.push es[i].born) clock)).heap[b]? = some (.map es clock) := by
      rw [hset, Array.getElem?_setIfInBounds_ne (Ne.symm hbr)]; exact h.map
    refine hK' _ _ (hMore ⟨i, hi⟩ _ hnew ⟨hb2, _, hr2, ⟨?_, ?_⟩⟩ ?_ ?_ ?_)
    · exact List.nodup_append.2 ⟨h2.nd, by simp, fun a ha c hc => by simp at hc; subst hc; exact fun e => hnew (e ▸ ha)⟩
    · simp [h2.eq]
    · refine ⟨?_, ?_, ?_, by rw [hset]; simp, fun k _ hk => by rw [hset, Array.getElem?_setIfInBounds_ne (fun e => hk (by rw [e]))]⟩ <;> (rcases hw1 with rfl | rfl <;> rfl)
    · rw [hset]; simp
    · exact run_entry_at _ r b clock seen es clock es[i] hr2 hb2 (by simp) hst.2
end

/-- How many are left: read off the world, under a name of its own. -/
def leftN (n r : Nat) (w : World) : Nat := match w.heap[r]? with | some (.mapIter _ _ seen _) => n - seen.size | _ => 0
theorem Under.leftN_eq {es : Array MapEntry} {clock b r : Nat} {xs : List (Fin es.size)} {w : World} (h : Under es clock b r xs w) : leftN es.size r w = es.size - xs.length := by
  obtain ⟨seen, h1, h2⟩ := h.iter
  unfold leftN
  rw [h1]
  show es.size - seen.size = es.size - xs.length
  have : seen.size = xs.length := by rw [← Array.length_toList, h2.eq, List.length_map]
  rw [this]
theorem Under.lt {es : Array MapEntry} {clock b r : Nat} {xs : List (Fin es.size)} {w : World} (h : Under es clock b r xs w) {i : Fin es.size} (hi : i ∉ xs) : xs.length < es.size := by
  obtain ⟨seen, h1, h2⟩ := h.iter
  have := fin_le (List.nodup_append.2 ⟨h2.nd, (by simp : [i].Nodup), fun a ha c hc => by simp at hc; subst hc; exact fun e => hi (e ▸ ha)⟩)
  simp at this
  omega
end Go.Keys
