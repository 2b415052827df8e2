/- slices.Collect, slices.SortFunc, slices.SortedFunc at Edge, over maps.Keys: the keys, sorted, where the comparison orders them strictly. -/
import Derived.Test.YtjjiblgcmdbcoaaGreatDoorCollEOne
import Derived.Shelf.SlSortCmp.SmallK
import Derived.Shelf.Small.Bits
import Derived.Shelf.SlGeneric
import Derived.Ground.SlsfProg
import Derived.Ground.NamesProg
set_option linter.unusedVariables false
set_option linter.unusedSimpArgs false
namespace Go.Proofs
open Go.RowKit Go.Sort Go.Keys Go.Shelf

def Tryz.sortE_ren : Go.Shelf.Ren := ⟨fun | 6 => 231 | 15 => 64 | 14 => 253 | 28 => 94 | 29 => 95 | 20 => 268 | 21 => 269 | 22 => 270 | 23 => 271 | 24 => 272 | 25 => 273 | 26 => 274 | 27 => 275 | 46 => 287 | 47 => 133 | 48 => 134 | 49 => 288 | 50 => 289 | 57 => 301 | n => n, fun | 22 => 207 | 24 => 214 | 25 => 270 | 3 => 3 | 39 => 121 | 0 => 0 | 53 => 151 | 55 => 153 | 4 => 4 | 46 => 144 | 45 => 143 | 50 => 95 | 5 => 5 | 9 => 9 | 66 => 195 | 70 => 199 | 76 => 258 | 77 => 77 | n => n, fun | n => n⟩
theorem Tryz.sortE : Go.Proofs.SlLaysF0.n6 Tryz.prog Tryz.sortE_ren := {
  mixed := by kernel_rfl
  f6 := ⟨Tryz.f231.name, by decide, Tryz.func231.trans (congrArg some (by kernel_rfl))⟩
  f14 := ⟨Tryz.f253.name, by decide, Tryz.func253.trans (congrArg some (by kernel_rfl))⟩
  f15 := Tryz.func64.trans (congrArg some (by kernel_rfl))
  f20 := ⟨Tryz.f268.name, by decide, Tryz.func268.trans (congrArg some (by kernel_rfl))⟩
  f21 := ⟨Tryz.f269.name, by decide, Tryz.func269.trans (congrArg some (by kernel_rfl))⟩
  f22 := ⟨Tryz.f270.name, by decide, Tryz.func270.trans (congrArg some (by kernel_rfl))⟩
  f23 := ⟨Tryz.f271.name, by decide, Tryz.func271.trans (congrArg some (by kernel_rfl))⟩
  f24 := ⟨Tryz.f272.name, by decide, Tryz.func272.trans (congrArg some (by kernel_rfl))⟩
  f25 := ⟨Tryz.f273.name, by decide, Tryz.func273.trans (congrArg some (by kernel_rfl))⟩
  f26 := ⟨Tryz.f274.name, by decide, Tryz.func274.trans (congrArg some (by kernel_rfl))⟩
  f27 := ⟨Tryz.f275.name, by decide, Tryz.func275.trans (congrArg some (by kernel_rfl))⟩
  f28 := Tryz.func94.trans (congrArg some (by kernel_rfl))
  f29 := Tryz.func95.trans (congrArg some (by kernel_rfl))
  f46 := ⟨Tryz.f287.name, by decide, Tryz.func287.trans (congrArg some (by kernel_rfl))⟩
  f47 := Tryz.func133.trans (congrArg some (by kernel_rfl))
  f48 := Tryz.func134.trans (congrArg some (by kernel_rfl))
  f49 := ⟨Tryz.f288.name, by decide, Tryz.func288.trans (congrArg some (by kernel_rfl))⟩
  f50 := ⟨Tryz.f289.name, by decide, Tryz.func289.trans (congrArg some (by kernel_rfl))⟩
  f57 := ⟨Tryz.f301.name, by decide, Tryz.func301.trans (congrArg some (by kernel_rfl))⟩
  t0 := Tryz.underlying0
  a0 := Tryz.isAgg0
  z0 := Tryz.sizeOf0
  v0 := Tryz.zeroValue0
  t3 := Tryz.underlying3
  a3 := Tryz.isAgg3
  z3 := Tryz.sizeOf3
  v3 := Tryz.zeroValue3
  t4 := Tryz.underlying4
  a4 := Tryz.isAgg4
  z4 := Tryz.sizeOf4
  v4 := Tryz.zeroValue4
  t5 := Tryz.underlying5
  a5 := Tryz.isAgg5
  z5 := Tryz.sizeOf5
  v5 := Tryz.zeroValue5
  t9 := Tryz.underlying9
  a9 := Tryz.isAgg9
  z9 := Tryz.sizeOf9
  v9 := Tryz.zeroValue9
  t22 := Tryz.underlying207
  a22 := Tryz.isAgg207
  z22 := Tryz.sizeOf207
  v22 := Tryz.zeroValue207
  t25 := Tryz.underlying270
  a25 := Tryz.isAgg270
  z25 := Tryz.sizeOf270
  v25 := Tryz.zeroValue270
  t39 := Tryz.underlying121
  a39 := Tryz.isAgg121
  z39 := Tryz.sizeOf121
  v39 := Tryz.zeroValue121
  t45 := Tryz.underlying143
  a45 := Tryz.isAgg143
  z45 := Tryz.sizeOf143
  v45 := Tryz.zeroValue143
  t46 := Tryz.underlying144
  a46 := Tryz.isAgg144
  z46 := Tryz.sizeOf144
  v46 := Tryz.zeroValue144
  t50 := Tryz.underlying95
  a50 := Tryz.isAgg95
  z50 := Tryz.sizeOf95
  v50 := Tryz.zeroValue95
  t53 := Tryz.underlying151
  a53 := Tryz.isAgg151
  z53 := Tryz.sizeOf151
  v53 := Tryz.zeroValue151
  t55 := Tryz.underlying153
  a55 := Tryz.isAgg153
  z55 := Tryz.sizeOf153
  v55 := Tryz.zeroValue153
  t66 := Tryz.underlying195
  a66 := Tryz.isAgg195
  z66 := Tryz.sizeOf195
  v66 := Tryz.zeroValue195
  t70 := Tryz.underlying199
  a70 := Tryz.isAgg199
  z70 := Tryz.sizeOf199
  v70 := Tryz.zeroValue199
  t76 := Tryz.underlying258
  a76 := Tryz.isAgg258
  z76 := Tryz.sizeOf258
  v76 := Tryz.zeroValue258
  t77 := Tryz.underlying77
  a77 := Tryz.isAgg77
  z77 := Tryz.sizeOf77
  v77 := Tryz.zeroValue77 }

def Tryz.bitsLenE_ren : Go.Shelf.Ren := ⟨fun | 125 => 64 | 128 => 94 | 129 => 95 | n => n, fun | 46 => 121 | 3 => 3 | 51 => 151 | 53 => 153 | 4 => 4 | 5 => 5 | 9 => 9 | n => n, fun | n => n⟩
theorem Tryz.bitsLenE : Go.Proofs.Lays.n125 Tryz.prog Tryz.bitsLenE_ren := {
  mixed := by kernel_rfl
  f125 := Tryz.func64.trans (congrArg some (by kernel_rfl))
  f128 := Tryz.func94.trans (congrArg some (by kernel_rfl))
  f129 := Tryz.func95.trans (congrArg some (by kernel_rfl))
  t3 := Tryz.underlying3
  a3 := Tryz.isAgg3
  z3 := Tryz.sizeOf3
  v3 := Tryz.zeroValue3
  t4 := Tryz.underlying4
  a4 := Tryz.isAgg4
  z4 := Tryz.sizeOf4
  v4 := Tryz.zeroValue4
  t5 := Tryz.underlying5
  a5 := Tryz.isAgg5
  z5 := Tryz.sizeOf5
  v5 := Tryz.zeroValue5
  t9 := Tryz.underlying9
  a9 := Tryz.isAgg9
  z9 := Tryz.sizeOf9
  v9 := Tryz.zeroValue9
  t46 := Tryz.underlying121
  a46 := Tryz.isAgg121
  z46 := Tryz.sizeOf121
  v46 := Tryz.zeroValue121
  t51 := Tryz.underlying151
  a51 := Tryz.isAgg151
  z51 := Tryz.sizeOf151
  v51 := Tryz.zeroValue151
  t53 := Tryz.underlying153
  a53 := Tryz.isAgg153
  z53 := Tryz.sizeOf153
  v53 := Tryz.zeroValue153 }

theorem Tryz.hlenE (n : Nat) (W : World) (h : n ≤ 12) : Calls Tryz.prog 64 #[.int .u64 n] W fun e w' => (∃ l : Int, e = .returned (.int .i64 l)) ∧ w' = W :=
  (Any.bits_Len Tryz.bitsLenE n W (by omega) (by omega)).mono fun _ _ ⟨he, hw⟩ => ⟨⟨_, he⟩, hw⟩

abbrev EdgeV := List UInt8 × List UInt8 × Bool

theorem flat3 (l : List EdgeV) : ∀ (i c : Nat) (e : EdgeV), l[i]? = some e → c < 3 → (l.flatMap cellsE)[i * 3 + c]? = (cellsE e)[c]? := by
  induction l with
  | nil => intro i c e h; simp at h
  | cons x l ih =>
    intro i c e h hc
    rw [List.flatMap_cons]
    cases i with
    | zero =>
      simp at h; subst h
      rw [List.getElem?_append_left (by simp [cellsE]; omega)]; simp
    | succ i =>
      rw [List.getElem?_append_right (by simp [cellsE]; omega)]
      have := ih i c e (by simpa using h) hc
      simpa [cellsE, show (i + 1) * 3 + c - 3 = i * 3 + c by omega] using this
theorem flat3_length (l : List EdgeV) : (l.flatMap cellsE).length = l.length * 3 := by
  induction l with
  | nil => rfl
  | cons x l ih => rw [List.flatMap_cons, List.length_append, ih]; simp [cellsE]; omega

theorem flatK_eq {α : Type} [Inhabited α] (f : α → EdgeV) (d : Array α) : (flatK (fun i => cellsE (f i)) 3 d).toList = (d.toList.map f).flatMap cellsE := by
  apply List.ext_getElem?
  intro t
  by_cases ht : t < d.size * 3
  · have h1 : t / 3 < d.size := by omega
    have h2 : (d.toList.map f)[t / 3]? = some (f d[t / 3]!) := by simp [h1]
    have h3 := flat3 (d.toList.map f) (t / 3) (t % 3) _ h2 (by omega)
    rw [show t / 3 * 3 + t % 3 = t by omega] at h3
    rw [h3]
    have h4 := get_flatK (fun i => cellsE (f i)) 3 d t ht
    have h5 : (flatK (fun i => cellsE (f i)) 3 d).toList[t]? = some ((cellsE (f d[t / 3]!))[t % 3]!) := by
      rw [← h4]; simp [ht]
    rw [h5]
    have : t % 3 < (cellsE (f d[t / 3]!)).length := by simp [cellsE]; omega
    simp [this]
  · rw [List.getElem?_eq_none (by simp; omega), List.getElem?_eq_none (by rw [flat3_length]; simp; omega)]

/-- A permutation of what a list is mapped to is what a permutation of it is mapped to. -/
theorem perm_map {α β : Type} (f : α → β) : ∀ {l l' : List β}, l.Perm l' → ∀ m : List α, l' = m.map f → ∃ m' : List α, m'.Perm m ∧ l = m'.map f := by
  intro l l' h
  induction h with
  | nil => intro m hm; exact ⟨[], by rw [List.map_eq_nil_iff.1 hm.symm], rfl⟩
  | cons x h ih =>
    intro m hm
    obtain ⟨a, m1, rfl, h1, h2⟩ := List.map_eq_cons_iff.1 hm.symm
    obtain ⟨m', h3, rfl⟩ := ih m1 h2.symm
    exact ⟨a :: m', h3.cons a, by simp [h1]⟩
  | swap x y l =>
    intro m hm
    obtain ⟨a, m1, rfl, h1, h2⟩ := List.map_eq_cons_iff.1 hm.symm
    obtain ⟨b, m2, rfl, h3, h4⟩ := List.map_eq_cons_iff.1 h2
    exact ⟨b :: a :: m2, .swap a b m2, by simp [h1, h3, h4]⟩
  | trans h1 h2 ih1 ih2 =>
    intro m hm
    obtain ⟨m1, h3, h4⟩ := ih2 m hm
    obtain ⟨m2, h5, h6⟩ := ih1 m1 h4
    exact ⟨m2, h5.trans h3, h6⟩

theorem map_get_finRange {α : Type} (L : List α) : (List.finRange L.length).map L.get = L := by
  apply List.ext_getElem (by simp)
  intro i h1 h2
  simp

/-! the row of a slice, cell by cell -/
theorem holds_flat {w : World} {g : Nat} {cur F : Array Value} {e : TypeId} (hb : w.heap[g]? = some (.cells cur e (0, 0))) (ht : cur.toList.take F.size = F.toList) : Holds id w g 0 F := by
  intro j hj
  refine ⟨?_, by simp [World.frozen?, hb]⟩
  have h1 : (cur.toList.take F.size)[j]? = F.toList[j]? := by rw [ht]
  rw [List.getElem?_take_of_lt hj] at h1
  simp only [World.cell?, hb, Nat.zero_add]
  simp only [Option.isSome_none, Bool.false_eq_true, if_false]
  rw [← Array.getElem?_toList, h1]
  simp [hj]
theorem heap_flat {w : World} {g n : Nat} {os : Array Obj} {cur : Array Value} {e : TypeId} {fr : Nat × Nat} (d : Array Value) (hb : w.heap[g]? = some (.cells cur e fr)) :
    (grow (putRow id (Sort.ahead w n) g 0 d) os).heap[g]? = some (.cells (putCells id 0 d cur) e fr) := by
  have hg : g < w.heap.size := (Array.getElem?_eq_some_iff.1 hb).1
  rw [heap_grow_old _ _ (by simpa using hg)]
  simp [putRow, mapBlock, Sort.ahead, Array.getElem?_modify, hb, onCells]
theorem grownBy_flat {w : World} {g n : Nat} {os : Array Obj} (d : Array Value) : w.grownBy (grow (putRow id (Sort.ahead w n) g 0 d) os) (some g) := by
  refine ⟨rfl, rfl, rfl, by simp, fun k hk hne => ?_⟩
  rw [heap_grow_old _ _ (by simpa using hk)]
  have : g ≠ k := fun e => hne (by rw [e])
  simp [putRow, mapBlock, Sort.ahead, Array.getElem?_modify, this]
theorem take_flat (cur F : Array Value) (h : F.size ≤ cur.size) : (putCells id 0 F cur).toList.take F.size = F.toList := by
  apply List.ext_getElem?
  intro j
  by_cases hj : j < F.size
  · rw [List.getElem?_take_of_lt hj, Array.getElem?_toList]
    simp [putCells, hj, show j < cur.size by omega]
  · rw [List.getElem?_take_eq_none (by omega), List.getElem?_eq_none (by simp; omega)]
theorem ownsRow_flat {w : World} {base g cap n k : Nat} {e : TypeId} {os : Array Obj} {cur F : Array Value} (hl : F.size = k * 3) (hbase : base ≤ g) (hb : w.heap[g]? = some (.cells cur e (0, 0)))
    (h1 : k ≤ cap) (h2 : cap ≤ maxLen) (h3 : cur.size = cap * 3) :
    (grow (putRow id (Sort.ahead w n) g 0 F) os).ownsRow base e 3 (.slice (some ⟨g, 0, none⟩) k cap) k F.toList :=
  ⟨by simp [hl], .inr ⟨g, cap, _, rfl, hbase, heap_flat _ hb, h1, h2, by simp [putCells, h3], by rw [← hl]; exact take_flat cur F (by omega)⟩⟩

set_option maxRecDepth 100000 in
set_option maxHeartbeats 1000000 in
theorem Tryz.collectE (F : Fence) (n : Nat) (hc : F.fn 230) (hf : F.fn 252) (hfk : F.fn 232) (hro : F.round = none) (hn : 3 ≤ n) (p : Addr) (b : Nat) (es : Array MapEntry) (clock : Nat) (kv : Fin es.size → EdgeV) (hkv : ∀ i : Fin es.size, es[i].key = encE (kv i))
    (hst : (∀ m ∈ es.toList, m.born < clock) ∧ (es.toList.map (·.born)).Nodup) (hN : es.size ≤ maxLen) (hNb : es.size * 40 ≤ 140737488355328) (w : World) (hm : w.cell? p = some (.map (some b))) (hb : w.heap[b]? = some (.map es clock)) :
    CallsIn F n Tryz.prog 230 #[.func (.func 232) #[] #[.pointer (some p)]] w fun e w' =>
      ∃ (v : Value) (xs : List (Fin es.size)), e = .returned v ∧ xs.Perm (List.finRange es.size) ∧ w'.ownsRow w.heap.size 214 3 v xs.length ((xs.map kv).flatMap cellsE) ∧ Below w.heap.size w w' := by
  have h1 : 1 ≤ n := by omega
  have cA := Tryz.appendSeqE F (n - 1) hf hfk hro (by omega) p b es clock kv hkv hst hN hNb w hm hb
  refine callsIn_of_wp Tryz.func230 rfl hc ?_ hro
  simp only [Tryz.ntmps230, List.size_toArray, List.length_cons, List.length_nil, Nat.reduceAdd, Nat.reduceSub, Array.replicate_succ, Array.replicate_zero, List.push_toArray, List.append_toArray, List.nil_append, List.cons_append]
  gi_wp2_with (gi_at_call 252; refine cA.mono ?_; rintro e w' ⟨v, xs, rfl, hS, hrow, hB⟩)
  go_ret
  exact ⟨v, xs, rfl, hS, hrow, hB⟩

set_option maxRecDepth 100000 in
set_option maxHeartbeats 1000000 in
theorem Tryz.sortedFuncE (p : Addr) (b : Nat) (es : Array MapEntry) (clock : Nat) (kv : Fin es.size → EdgeV) (hkv : ∀ i : Fin es.size, es[i].key = encE (kv i))
    (hst : (∀ m ∈ es.toList, m.born < clock) ∧ (es.toList.map (·.born)).Nodup) (w : World) (hm : w.cell? p = some (.map (some b))) (hb : w.heap[b]? = some (.map es clock))
    (L : List EdgeV) (hL : ((List.finRange es.size).map kv).Perm L) (h0 : 0 < L.length) (h12 : L.length ≤ 12) (g : Nat) (eg : ∀ args w, (callFunc g args).run Tryz.prog w = .ok (.enter g args) w) (cf : Fin L.length → Fin L.length → Int) (hcf : ∀ i j, cf i j < 0 ↔ i < j)
    (hcmp : ∀ W, Below w.heap.size w W → ∀ i j : Fin L.length, Calls Tryz.prog g #[encE (L.get i), encE (L.get j)] W fun e W' => e = .returned (.int .i64 (cf i j)) ∧ ∃ q os', W' = grow (W.drewN q) os') :
    Calls Tryz.prog 196 #[.func (.func 232) #[] #[.pointer (some p)], .func (.func g) #[] #[]] w fun e w' =>
      ∃ v, e = .returned v ∧ w'.ownsRow w.heap.size 214 3 v L.length (L.flatMap cellsE) ∧ Below w.heap.size w w' := by
  have hsz : es.size = L.length := by have := hL.length_eq; simpa using this
  have cC := callsIn_wide.1 (Tryz.collectE Fence.wide 3 trivial trivial trivial rfl (by omega) p b es clock kv hkv hst (by rw [hsz]; exact Nat.le_trans h12 (by decide)) (by omega) w hm hb)
  haveI : Inhabited (Fin L.length) := ⟨⟨0, h0⟩⟩
  have e163 := enters_of Tryz.func231 (by kernel_rfl) rfl
  have hswo : SWO (ltOf cf) := by
    have e : ∀ x y, ltOf cf x y = decide (x < y) := fun x y => by
      unfold ltOf
      by_cases h : x < y
      · simp [h, (hcf x y).2 h]
      · simp [h, mt (hcf x y).1 h]
    exact ⟨fun x => by simp [e], fun x y z h1 h2 => by rw [e, decide_eq_true_eq] at *; omega, fun x y z h1 h2 => by rw [e, decide_eq_false_iff_not] at *; omega⟩
  go_enter Tryz.func196, Tryz.ntmps196
  go_wp2_with (go_at_call 230; refine cC.mono ?_; rintro e W ⟨v, xs, rfl, hS, hrow, hB⟩)
  have hxl : xs.length = L.length := by rw [hS.length_eq]; simpa using hsz
  obtain ⟨ys, hys, hyx⟩ : ∃ ys : List (Fin L.length), ys.Perm (List.finRange L.length) ∧ xs.map kv = ys.map L.get := perm_map L.get ((hS.map kv).trans hL) (List.finRange L.length) (map_get_finRange L).symm
  have hyl : ys.length = L.length := by rw [hys.length_eq]; simp
  have hys' : ys.toArray.size = xs.length := by simp [hyl, hxl]
  rcases hrow.2 with ⟨_, h⟩ | ⟨gb, cap, cur, rfl, hbase, hgb, r1, r2, r3, r4⟩
  · omega
  have hgl : gb < W.heap.size := (Array.getElem?_eq_some_iff.1 hgb).1
  have hH : HoldsK (fun i => cellsE (L.get i)) 3 W gb 0 ys.toArray := holds_flat hgb (by rw [flatK_eq, size_flatK, hys', r4, hyx])
  have cS := AnyQ.slices_SortFunc_small_sorted Tryz.sortE 3 Tryz.isAgg214 Tryz.sizeOf214 (fun i => cellsE (L.get i)) (fun _ => rfl) (fun x => cellsE_one _) cf g #[] hswo gb 0 cap ys.toArray W eg
    (fun m os dk hd x y => hcmp _ (hB.grown (grownBy_flat _) hB.size (fun k e => by cases e; exact hbase)) x y) hH hgl (by rw [hys', hxl]; exact h12) Tryz.hlenE
  rw [hys'] at cS
  change Calls Tryz.prog 231 _ _ _ at cS
  clear hcmp
  go_wp2_with (go_at_call 231; refine cS.mono ?_; rintro e W' ⟨rfl, d', m, os, hp, hs, rfl⟩)
  go_ret
  have hd : d' = (List.finRange L.length).toArray := by
    obtain ⟨p1, _, p3⟩ := hp
    have q1 : d'.size = xs.length := by rw [p1, hys']
    rw [show d'.extract 0 xs.length = d' by rw [← q1]; exact Array.extract_size, show ys.toArray.extract 0 xs.length = ys.toArray by rw [← hys']; exact Array.extract_size] at p3
    have p4 : d'.toList.Perm (List.finRange L.length) := p3.trans (by simpa using hys)
    apply Array.toList_inj.1
    rw [List.toList_toArray]
    refine List.Perm.eq_of_pairwise (le := fun x y : Fin L.length => x ≤ y) (fun a b _ _ h1 h2 => Fin.le_antisymm h1 h2) ?_ ?_ p4
    · rw [List.pairwise_iff_getElem]
      intro i j hi hj hij
      have hj' : j < d'.size := by simpa using hj
      have hi' : i < d'.size := by omega
      have := hs i j (Nat.zero_le _) hij (by omega)
      unfold ltOf at this
      rw [decide_eq_false_iff_not, hcf, getElem!_pos d' j hj', getElem!_pos d' i hi'] at this
      simpa using Fin.not_lt.1 this
    · rw [List.pairwise_iff_getElem]
      intro i j hi hj hij
      simp [Fin.le_def]; omega
  subst hd
  have hfl : (flatK (fun i => cellsE (L.get i)) 3 (List.finRange L.length).toArray).toList = L.flatMap cellsE := by
    rw [flatK_eq, List.toList_toArray, map_get_finRange]
  refine ⟨_, rfl, ?_, hB.grown (grownBy_flat _) hB.size (fun k e => by cases e; exact hbase)⟩
  rw [← hfl]
  exact ownsRow_flat (by simp) hbase hgb (by omega) r2 r3
end Go.Proofs
