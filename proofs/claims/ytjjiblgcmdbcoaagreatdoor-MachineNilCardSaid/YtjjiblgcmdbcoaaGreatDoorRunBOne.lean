/- MachineNil: what the row's list says of check.keywords: its forty cells. -/
import Derived.Test.YtjjiblgcmdbcoaaGreatDoorRunAOne
import Derived.Test.YtjjiblgcmdbcoaaGreatDoorCards
import Derived.Test.YtjjiblgcmdbcoaaGreatDoorTie
import Derived.WalkKit
import Derived.ProofKit
import Derived.OpenShut
import Derived.Deep.DeepHandedRow
import Derived.Lib.LaidTab
set_option linter.unusedVariables false
set_option linter.unusedSimpArgs false
set_option linter.all false
namespace Go.Proofs.YtjjiblgcmdbcoaaGreatDoor
open Go Go.RowKit

/-- The value of a literal that is no float. -/
def litV : Lit → Value
  | .bool b => .bool b
  | .int k n => .int k n
  | .string s => .string ⟨s.toArray⟩
  | .float k b => .float k b
  | .nil => .nilIface
/-- The cells of plain data. -/
def kwRow {H : Type} (d : DataW H) : List Value := match d with
  | .agg [.lit a, .lit b, .lit c, .lit e] => [litV a, litV b, litV c, litV e]
  | _ => []
def kwCells : List Value := match (Rows.laid_gameplayer_check_keywords : DataW Unit) with
  | .agg ds => ds.flatMap kwRow
  | _ => []

set_option maxRecDepth 100000 in
theorem row_reads {H : Type} {enc : TypeId × Value → H} {w : World} {base : Nat} {sp : Nat → Bool} {held : Bool} {fuel : Nat} {cs : List Value} {x : DataW H × List MemPlace}
    (h : DataW.trod enc Tryz.prog w base sp held fuel 261 cs = some x) : cs = kwRow x.1 ∧ cs.length = 4 := by
  obtain ⟨xs, n, _, rfl, hl, hlen, hf⟩ := DataW.trod_struct Tryz.underlying261 h
  have hl : cs.length = 4 := hl.trans (by kernel_rfl)
  match xs, hlen, cs, hl with
  | [y0, y1, y2, y3], _, [c0, c1, c2, c3], _ =>
    have f0 := hf 0 _ rfl
    have f1 := hf 1 _ rfl
    have f2 := hf 2 _ rfl
    have f3 := hf 3 _ rfl
    have k9 : Tryz.prog.cellsOf 9 = 1 := by kernel_rfl
    have k3 : Tryz.prog.cellsOf 3 = 1 := by kernel_rfl
    have k4 : Tryz.prog.cellsOf 4 = 1 := by kernel_rfl
    simp only [k9, k3, k4, List.drop, List.take, List.getElem?_cons_zero, List.getElem?_cons_succ] at f0 f1 f2 f3
    obtain ⟨s, e0, rfl, _⟩ := DataW.trod_string Tryz.underlying9 f0
    obtain ⟨m, e1, rfl, _⟩ := DataW.trod_int Tryz.underlying3 f1
    obtain ⟨b, e2, rfl⟩ := DataW.trod_bool Tryz.underlying4 f2
    obtain ⟨b', e3, rfl⟩ := DataW.trod_bool Tryz.underlying4 f3
    cases e0; cases e1; cases e2; cases e3
    exact ⟨by simp [kwRow, litV], rfl⟩

theorem flat_take {n : Nat} : ∀ (m : Nat) (cs : List Value) (rs : List (List Value)), cs.length = m * n → rs.length = m → (∀ i, i < m → rs[i]? = some ((cs.drop (i * n)).take n)) → cs = rs.flatten
  | 0, cs, rs, hl, hr, _ => by
    obtain rfl : cs = [] := by simpa using hl
    obtain rfl : rs = [] := by simpa using hr
    rfl
  | m + 1, cs, r :: rs, hl, hr, h => by
    have h0 := h 0 (by omega)
    simp at h0
    subst h0
    have := flat_take (n := n) m (cs.drop n) rs (by rw [List.length_drop, hl, Nat.add_mul]; omega) (by simpa using hr) fun i hi => by
      have := h (i + 1) (by omega)
      rw [List.getElem?_cons_succ] at this
      rw [this, List.drop_drop, Nat.add_mul, Nat.one_mul, Nat.add_comm]
    rw [List.flatten_cons, ← this, List.take_append_drop]
  | m + 1, cs, [], _, hr, _ => by cases hr

set_option maxRecDepth 100000 in
theorem tab_reads {H : Type} {enc : TypeId × Value → H} {w : World} {base : Nat} {sp : Nat → Bool} {held : Bool} {fuel : Nat} {cs : List Value} {p : List MemPlace}
    {ds : List (DataW H)} (h : DataW.trod enc Tryz.prog w base sp held fuel 294 cs = some (.agg ds, p)) : cs = ds.flatMap kwRow ∧ cs.length = 40 := by
  obtain ⟨xs, n, _, hx, hl, hlen, hf⟩ := DataW.trod_array Tryz.underlying294 h
  have k : Tryz.prog.cellsOf 261 = 4 := by kernel_rfl
  have hl : cs.length = 40 := hl.trans (by kernel_rfl)
  rw [k] at hf
  cases hx
  refine ⟨?_, hl⟩
  rw [List.flatMap_def, List.map_map]
  refine flat_take (n := 4) 10 cs _ hl (by simpa using hlen) fun i hi => ?_
  have h1 := hf i hi
  rw [List.getElem?_map]
  obtain ⟨y, hy⟩ : ∃ y, xs[i]? = some y := ⟨_, List.getElem?_eq_getElem (by omega)⟩
  rw [hy] at h1 ⊢
  exact congrArg some (row_reads h1).1.symm

set_option maxRecDepth 100000 in
theorem kw_met {w : World} (h : laidMetH Tryz.prog Rows.machineNilRow.laid w) : ∃ cur t fz, w.heap[1]? = some (.cells cur t fz) ∧ cur.toList = kwCells := by
  have h : laidMet Tryz.prog Rows.machineNilRow.laid w := h
  obtain ⟨ps, hv, _⟩ := h
  obtain ⟨_, _, _, _, _, _, _, _, _, _, hv, _⟩ := hv
  obtain ⟨_, _, _, _, _, _, _, _, _, _, hv, _⟩ := hv
  obtain ⟨_, _, _, _, _, _, _, _, _, _, hv, _⟩ := hv
  obtain ⟨g, t, cs, fuel, p, q, hg, ht, hvar, hd, _, _⟩ := hv
  have hg1 : Tryz.prog.globalNamed "gameplayer/check.keywords" = some 1 := by kernel_rfl
  have ht1 : (Tryz.prog.globals[1]?).map (·.type) = some 294 := by kernel_rfl
  obtain rfl := Option.some.inj (hg1.symm.trans hg)
  obtain rfl := Option.some.inj (ht1.symm.trans ht)
  have hcs := (tab_reads hd).1
  unfold World.var? at hvar
  rw [hg1, Option.bind_some] at hvar
  split at hvar
  · rename_i cs' t' fz' hw
    cases hvar
    exact ⟨_, _, _, hw, hcs⟩
  · cases hvar
end Go.Proofs.YtjjiblgcmdbcoaaGreatDoor
