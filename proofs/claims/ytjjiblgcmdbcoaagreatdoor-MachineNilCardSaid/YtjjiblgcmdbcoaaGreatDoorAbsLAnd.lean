/- The evaluator of one operation, continued: what makes memory, and what writes it. -/
import Derived.Test.YtjjiblgcmdbcoaaGreatDoorAbsJAnd
set_option linter.unusedVariables false
set_option linter.unusedSimpArgs false
namespace Go.Abs
open Go Go.RowKit

section
variable {P : Program} {T : Nat → TE}

theorem vD1_spec {v : V} {K : D → Prop} (h : vD1 v K) : ∃ x, K x ∧ ∀ (β : Nat → Value) (u ok : Nat → Prop) (w : World) val, RdV β u ok w val v → RdD ok w val x := by
  cases v <;> simp only [vD1] at h
  case d x => exact ⟨x, h, fun β u ok w val hv => hv.dInv⟩
  case nils => exact ⟨_, h, fun β u ok w val hv => by cases hv; exact .lemp _⟩
  case emp => exact ⟨_, h, fun β u ok w val hv => by cases hv; exact .lemp _⟩

theorem vDs_spec : ∀ {vs : List V} {K : List D → Prop}, vDs vs K → ∃ ds, K ds ∧ ds.length = vs.length ∧
    ∀ (β : Nat → Value) (u ok : Nat → Prop) (w : World) (j : Nat) val v d, vs[j]? = some v → ds[j]? = some d → RdV β u ok w val v → RdD ok w val d
  | [], K, h => ⟨[], h, rfl, fun β u ok w j val v d hv => by simp at hv⟩
  | v :: vs, K, h => by
    unfold vDs at h
    obtain ⟨x, h1, h2⟩ := vD1_spec h
    obtain ⟨ds, h3, h4, h5⟩ := vDs_spec h1
    refine ⟨x :: ds, h3, by simp [h4], fun β u ok w j val v' d hv hd hr => ?_⟩
    cases j with
    | zero => simp at hv hd; subst hv; subst hd; exact h2 β u ok w val hr
    | succ j => exact h5 β u ok w j val v' d (by simpa using hv) (by simpa using hd) hr

theorem vD_spec {v : V} {K : D → Prop} (h : vD v K) : ∃ x, K x ∧ ∀ (β : Nat → Value) (u ok : Nat → Prop) (w : World) val, RdV β u ok w val v → RdD ok w val x := by
  unfold vD at h
  split at h
  · rename_i cs
    obtain ⟨ds, h1, h2, h3⟩ := vDs_spec h
    refine ⟨_, h1, fun β u ok w val hv => ?_⟩
    cases hv with
    | agg vs _ q1 q2 q3 =>
      have key : ∀ (i : Nat) v c, vs[i]? = some v → ds[i]? = some c → RdD ok w v c := fun i v c hv hc => by
        have hi : i < cs.length := by rw [← h2]; exact (List.getElem?_eq_some_iff.1 hc).1
        have hcs : cs[i]? = some cs[i] := by simp
        exact h3 β u ok w i v _ c hcs hc (q2 i v _ hv hcs)
      exact .agg _ _ (by rw [q1, h2]) key (fun i v c hv hc => ⟨q3 i v hv, by rw [← (key i v c hv hc).oneCell]; exact q3 i v hv⟩)
  · exact vD1_spec h

def mapD : List D → (List V → Prop) → Prop
  | [], K => K []
  | d :: ds, K => mapD ds fun vs => K (.d d :: vs)

theorem mapD_spec : ∀ {ds : List D} {K : List V → Prop}, mapD ds K → K (ds.map .d)
  | [], _, h => h
  | d :: ds, K, h => by unfold mapD at h; exact mapD_spec (K := fun vs => K (.d d :: vs)) h

/-- The cells of a value: of a struct, or its own single one. -/
def vCells (agg : Bool) (v : V) (K : List V → Prop) : Prop :=
  match agg with
  | true => match v with
    | .agg cs => K cs
    | .d x => asAgg x fun ds => mapD ds K
    | _ => False
  | false => match v with
    | .d x => x.one = true ∧ K [.d x]
    | .nils => K [.nils]
    | .emp => K [.emp]
    | .ptr id off => K [.ptr id off]
    | .sl id sz off len => K [.sl id sz off len]
    | .ael id sz i off => K [.ael id sz i off]
    | .map id => K [.map id]
    | .func fn f c => K [.func fn f c]
    | _ => False

theorem vCells_spec {agg : Bool} {v : V} {K : List V → Prop} (h : vCells agg v K) : ∃ cs, K cs ∧ ∀ (β : Nat → Value) (u ok : Nat → Prop) (w : World) val, RdV β u ok w val v →
    val.cells.size = cs.length ∧ ∀ (j : Nat) u0 c, val.cells[j]? = some u0 → cs[j]? = some c → RdV β u ok w u0 c ∧ u0.oneCell' = true := by
  have one : ∀ (v : V) (val : Value), (∀ cs, val ≠ .agg cs) → val.oneCell' = true → ∀ (β : Nat → Value) (u ok : Nat → Prop) (w : World), RdV β u ok w val v → val.cells.size = [v].length ∧ ∀ (j : Nat) u0 c, val.cells[j]? = some u0 → [v][j]? = some c → RdV β u ok w u0 c ∧ u0.oneCell' = true := by
    intro v val hna h1 β u ok w hr
    have hc : val.cells = #[val] := by cases val <;> first | rfl | exact absurd rfl (hna _)
    rw [hc]
    refine ⟨rfl, fun j u0 c hu hc => ?_⟩
    cases j <;> simp at hu hc
    subst hu; subst hc
    exact ⟨hr, h1⟩
  unfold vCells at h
  split at h
  · split at h
    · rename_i cs
      refine ⟨cs, h, fun β u ok w val hv => ?_⟩
      cases hv with
      | agg vs _ q1 q2 q3 => exact ⟨q1, fun j u0 c hu hc => ⟨q2 j u0 c hu hc, q3 j u0 hu⟩⟩
    · obtain ⟨ds, rfl, h⟩ := asAgg_spec h
      refine ⟨_, mapD_spec h, fun β u ok w val hv => ?_⟩
      obtain ⟨q1, q2⟩ := hv.dInv.cellsOf
      refine ⟨by simpa [D.cells] using q1, fun j u0 c hu hc => ?_⟩
      simp only [List.getElem?_map, Option.map_eq_some_iff] at hc
      obtain ⟨d, hd, rfl⟩ := hc
      obtain ⟨f1, f2, _⟩ := q2 j u0 d hu hd
      exact ⟨.d _ _ f1, f2⟩
    · exact h.elim
  · split at h
    · obtain ⟨h1, h2⟩ := h
      refine ⟨_, h2, fun β u ok w val hv => one _ val (fun cs e => ?_) (by rw [hv.dInv.oneCell]; exact h1) β u ok w hv⟩
      have := hv.dInv.oneCell
      rw [h1, e] at this
      cases this
    all_goals first
      | exact h.elim
      | (refine ⟨_, h, fun β u ok w val hv => ?_⟩
         cases hv <;> exact one _ _ (fun cs e => by cases e) rfl β u ok w (by constructor <;> assumption))

/-! box, alloc -/

def evBox (mu : Bool) (te : TE) (vals : List V) (n : Nat) (K : KK) : Prop :=
  match vals with
  | [v] => selB mu (vCells te.k.isAgg v fun cs => K (.ptr n 0) (cellsδ n 0 cs) [] [n]) (vD v fun x => K (.d (.ref x.cells 0)) [] [] [])
  | _ => False

theorem evBox_sound {o : Oper} {t : Nat} {x : Operand} (ho : o.op = .box t x) {mu : Bool} {vals : List V} {h : Key → Option Res} {n : Nat} {K : KK} (hK : evBox mu (T t) vals n K) :
    ∃ x δ rd nw, K x δ rd nw ∧ OpSem P o vals h x δ rd nw := by
  unfold evBox at hK
  split at hK
  · rename_i v
    unfold selB at hK
    split at hK
    · obtain ⟨cs, hK, h1⟩ := vCells_spec hK
      refine ⟨_, _, _, _, hK, OpSem.of_run fun C β ok s a w hr g1 g2 g3 g4 g5 => ?_⟩
      simp only [ho, Op.operands, List.map_cons, List.map_nil, List.cons.injEq, and_true] at g1 g5
      have hx := hr.eval x (g5 x (by simp))
      rw [g1] at hx
      obtain ⟨q1, q2⟩ := h1 β s.used ok w _ hx
      obtain ⟨β', hrel⟩ := hr.newCells (dst := o.dst) g4 (g3 n (by simp)) (cells := (a.eval x).cells) t (xs := cs) q1 (fun j v x hv hx => q2 j v x hv hx)
      exact ⟨_, _, .inl (by simp [execOp, ho, Instr.box, newVar, newRow]), β', ok, hrel⟩
    · obtain ⟨d, hK, h1⟩ := vD_spec hK
      refine ⟨_, _, _, _, hK, OpSem.of_run fun C β ok s a w hr g1 g2 g3 g4 g5 => ?_⟩
      simp only [ho, Op.operands, List.map_cons, List.map_nil, List.cons.injEq, and_true] at g1 g5
      have hx := hr.eval x (g5 x (by simp))
      rw [g1] at hx
      obtain ⟨v', o', f1, f2⟩ := run_box_frozen (P := P) hr.okb (h1 β s.used ok w _ hx) t
      exact ⟨v', _, .inl (by simp [execOp, ho, f1]), β, _, hr.box g4 (.d _ _ f2)⟩
  · exact hK.elim

def evAlloc (te : TE) (n : Nat) (K : KK) : Prop :=
  whenB te.known (whenB (te.zero.cells.toList.all okC1) (K (.ptr n 0) (cellsδ n 0 (te.zero.cells.toList.map cellC)) [] [n]))

theorem evAlloc_sound (hT : TOK P T) {o : Oper} {t : Nat} (ho : o.op = .alloc t) {vals : List V} {h : Key → Option Res} {n : Nat} {K : KK} (hK : evAlloc (T t) n K) :
    ∃ x δ rd nw, K x δ rd nw ∧ OpSem P o vals h x δ rd nw := by
  obtain ⟨hk, hK⟩ := whenB_spec hK
  obtain ⟨hz, hK⟩ := whenB_spec hK
  obtain ⟨d, i, hf⟩ := hT.facts (TE.known_spec hk)
  have hz' : ∀ v ∈ (T t).zero.cells.toList, okC1 v = true := List.all_eq_true.1 hz
  refine ⟨_, _, _, _, hK, OpSem.of_run fun C β ok s a w hr g1 g2 g3 g4 g5 => ?_⟩
  obtain ⟨β', hrel⟩ := hr.newCells (dst := o.dst) g4 (g3 n (by simp)) (cells := (T t).zero.cells) t (xs := (T t).zero.cells.toList.map cellC) (by simp) (fun j v x hv hx => by
    have hm : v ∈ (T t).zero.cells.toList := by have := Array.mem_of_getElem? hv; simpa using this
    simp [hv] at hx
    subst hx
    have := hz' v hm
    exact ⟨rd_cellC _ _ _ _ _ this, by cases v <;> simp_all [okC1, Value.oneCell']⟩)
  exact ⟨_, _, .inl (by simp [execOp, ho, Instr.alloc, zeroValue, typeInfo, hf.info, hf.zero, newVar, newRow]), β', ok, hrel⟩

/-! store -/

def allCells (x : D) (K : List D → Prop) : Prop := K x.cells

/-- A row of cells with some of them written. -/
def patchD (cs : List D) (off : Nat) (r : List D) : List D := cs.take off ++ r ++ cs.drop (off + r.length)

def evStore (te : TE) (vals : List V) (h : Key → Option Res) (K : KK) : Prop :=
  match vals with
  | [.ptr id off, v] => vCells te.k.isAgg v fun cs => whenB (Nat.beq cs.length te.size) (whenB (Nat.blt 0 te.size) (getCells h id off te.size fun _ => K .any (cellsδ id off cs) (keysFrom id off te.size) []))
  | [.ael id sz i off, v] => getArr (h (id, 0)) fun sz' xs => whenB (Nat.beq sz sz') (vD v fun d => d.cells.length = te.size ∧ ∃ x, xs[i]? = some x ∧
      ((off = 0 ∧ te.size = sz ∧ K .any [((id, 0), some (.arr sz (xs.set i d)))] [(id, 0)] []) ∨
       (∃ cs, x = .agg cs ∧ (cs.length = sz ∧ off + te.size ≤ sz) ∧ K .any [((id, 0), some (.arr sz (xs.set i (.agg (patchD cs off d.cells)))))] [(id, 0)] [])))
  | _ => False

theorem run_storeVar (w : World) {t : Nat} {te : TE} {d : TypeDesc} {i : TypeInfo} (hf : TFacts P t te d i) (b off : Nat) (cur : Array Value) (Tb : TypeId) (hb : w.heap[b]? = some (.cells cur Tb (0, 0))) (v : Value) (hs : v.cells.size = te.size)
    (hfit : off + v.cells.size ≤ cur.size) (h1 : ∀ u ∈ v.cells.toList, u.oneCell' = true) : (Instr.storeAt t (.pointer (some ⟨b, off, none⟩)) v).run P w = .ok () (w.setRow b (patch cur off v.cells.toList)) := by
  have hst := run_storeCells_at P b off Tb v.cells.toList 0 cur w hb (by simpa using hfit) h1
  simp only [Nat.add_zero] at hst
  simp only [Instr.storeAt, Instr.sureAddr, storeVar, Sem.run_bind, Sem.run_pure, Result.andThen_ok, hf.sizeOf, hs, ne_eq, not_true_eq_false, if_false]
  exact hst

theorem evStore_sound (hT : TOK P T) {o : Oper} {t : Nat} {x y : Operand} (ho : o.op = .store t x y) (hkn : (T t).known = true) {vals : List V} {h : Key → Option Res} {K : KK} (hK : evStore (T t) vals h K) :
    ∃ x δ rd nw, K x δ rd nw ∧ OpSem P o vals h x δ rd nw := by
  obtain ⟨dd, ii, hf⟩ := hT.facts (TE.known_spec hkn)
  unfold evStore at hK
  split at hK
  · rename_i id off v
    obtain ⟨cs, hK, h1⟩ := vCells_spec hK
    obtain ⟨hlen, hK⟩ := whenB_spec hK
    obtain ⟨hpos, hK⟩ := whenB_spec hK
    have hlen' : cs.length = (T t).size := Nat.eq_of_beq_eq_true hlen
    have hpos' : 0 < (T t).size := Nat.le_of_ble_eq_true hpos
    obtain ⟨vs, h2, h3, hK⟩ := getCells_spec _ _ _ _ _ hK
    refine ⟨_, _, _, _, hK, OpSem.of_run fun C β ok s a w hr g1 g2 g3 g4 g5 => ?_⟩
    simp only [ho, Op.operands, List.map_cons, List.map_nil, List.cons.injEq, and_true] at g1 g5
    have hx := hr.eval x (g5 x (by simp))
    have hy := hr.eval y (g5 y (by simp))
    rw [g1.1] at hx
    rw [g1.2] at hy
    obtain ⟨q1, q2⟩ := h1 β s.used ok w _ hy
    generalize hvx : a.eval x = vx at hx
    cases hx with
    | ptr _ _ b p1 p2 =>
      have hne : cs ≠ [] := by intro e; rw [e] at hlen'; simp at hlen'; omega
      obtain ⟨b', cur, Tb, e1, e2, e3, hrel⟩ := hr.storeCells (dst := o.dst) g4 hne (fun j hj => by
        obtain ⟨v', _, p⟩ := h3 j (by omega)
        exact ⟨v', by rw [g2 _ (mem_keysFrom id _ off j (by omega))]; exact p⟩) (vs := (a.eval y).cells.toList) (by simpa using q1) (fun j v x hv hx => q2 j v x (by simpa using hv) hx) undef
      rw [p2] at e1
      simp at e1
      subst e1
      have hst := run_storeVar (P := P) w hf b off cur Tb e2 (a.eval y) (by rw [q1, hlen']) (by simpa using e3) (fun u hu => by
        obtain ⟨j, hj⟩ := List.getElem?_of_mem hu
        have hjl : j < cs.length := by have := (List.getElem?_eq_some_iff.1 hj).1; simp at this; omega
        exact (q2 j u cs[j] (by simpa using hj) (by simp)).2)
      exact ⟨undef, _, .inr ⟨by simp [execOp, ho, hvx, hst], rfl⟩, β, ok, hrel⟩
  · rename_i id sz i off v
    obtain ⟨sz', xs, hh, hK⟩ := getArr_spec hK
    obtain ⟨hs, hK⟩ := whenB_spec hK
    have hs' : sz = sz' := Nat.eq_of_beq_eq_true hs
    obtain ⟨d, ⟨hw, x0, hx0, hK2⟩, h1⟩ := vD_spec hK
    have main : ∀ (x' : D), x'.cells.length = sz → off + d.cells.length ≤ sz → (∀ j, j < d.cells.length → x'.cells[off + j]? = d.cells[j]?) → (∀ j, j < sz → j < off ∨ off + d.cells.length ≤ j → x'.cells[j]? = x0.cells[j]?) →
        OpSem P o [.ael id sz i off, v] h .any [((id, 0), some (.arr sz (xs.set i x')))] [(id, 0)] [] := by
      intro x' hx' hfit hin hout
      refine OpSem.of_run fun C β ok s a w hr g1 g2 g3 g4 g5 => ?_
      simp only [ho, Op.operands, List.map_cons, List.map_nil, List.cons.injEq, and_true] at g1 g5
      have hx := hr.eval x (g5 x (by simp))
      have hy := hr.eval y (g5 y (by simp))
      rw [g1.1] at hx
      rw [g1.2] at hy
      obtain ⟨q1, q2⟩ := (h1 β s.used ok w _ hy).cellsOf
      obtain ⟨b, o', cur, Tb, n, cap, e1, e2, e3, hrel⟩ := hr.storeArr (dst := o.dst) g4 (id := id) (sz := sz) (i := i) (off := off) (xs := xs) (by rw [g2 _ (by simp), hh, hs']) hx0 (x' := x') (vs := (a.eval y).cells.toList) (by simpa [q1] using hfit) hx'
        (fun j v' c hv hc => by
          have hjl : j < d.cells.length := by rw [← q1]; have := (List.getElem?_eq_some_iff.1 hv).1; simpa using this
          rw [hin j hjl] at hc
          exact q2 j v' c (by simpa using hv) hc) (fun j hjs hj => hout j hjs (by simpa [q1] using hj)) undef
      generalize hvx : a.eval x = vx at hx
      cases hx with
      | ael _ _ _ _ b2 o2 n2 cap2 p1 p2 =>
        rw [p2] at e1
        simp at e1
        obtain ⟨⟨rfl, rfl⟩, rfl, rfl⟩ := e1
        have hst := run_storeVar (P := P) w hf b2 (o2 + (i * sz + off)) cur Tb e2 (a.eval y) (by rw [q1, hw]) (by simpa using e3) (fun u hu => by
          obtain ⟨j, hj⟩ := List.getElem?_of_mem hu
          have hjl : j < d.cells.length := by have := (List.getElem?_eq_some_iff.1 hj).1; simp at this; omega
          exact (q2 j u d.cells[j] (by simpa using hj) (by simp)).2.1)
        exact ⟨undef, _, .inr ⟨by simp [execOp, ho, hvx, hst], rfl⟩, β, ok, hrel⟩
    rcases hK2 with ⟨rfl, hsz, hK3⟩ | ⟨cs, rfl, ⟨hcs, hfit⟩, hK3⟩
    · exact ⟨_, _, _, _, hK3, main d (by rw [hw, hsz]) (by omega) (fun j hj => by rw [Nat.zero_add]) (fun j hjs hj => by omega)⟩
    · have hfit' : off + d.cells.length ≤ cs.length := by omega
      refine ⟨_, _, _, _, hK3, main _ ?_ (by omega) (fun j hj => ?_) (fun j hjs hj => ?_)⟩
      · show (patchD cs off d.cells).length = sz
        simp [patchD]; omega
      · show (patchD cs off d.cells)[off + j]? = d.cells[j]?
        unfold patchD
        rw [List.append_assoc, List.getElem?_append_right (by simp; omega), List.getElem?_append_left (by simp; omega)]
        congr 1
        simp; omega
      · show (patchD cs off d.cells)[j]? = cs[j]?
        unfold patchD
        rcases hj with hj | hj
        · rw [List.append_assoc, List.getElem?_append_left (by simp; omega), List.getElem?_take_of_lt hj]
        · rw [List.getElem?_append_right (by simp; omega), List.getElem?_drop]
          congr 1
          simp; omega
  · exact hK.elim

end
end Go.Abs

/- The evaluator of one operation, continued: slices and structs built, made, cut, appended to. -/
namespace Go.Abs
open Go Go.RowKit

theorem fold_patch (off : Nat) : ∀ (l : List Value) (k : Nat) (cells : Array Value), off + k + l.length ≤ cells.size →
    (l.zipIdx k).foldl (fun cs (p : Value × Nat) => cs.setIfInBounds (off + p.2) p.1) cells = patch cells (off + k) l
  | [], k, cells, h => by simp [patch]
  | v :: l, k, cells, h => by
    simp only [List.length_cons] at h
    have ih := fold_patch off l (k + 1) (cells.setIfInBounds (off + k) v) (by simp; omega)
    simp only [List.zipIdx_cons, List.foldl_cons]
    rw [ih]
    have e := list_seg_step cells.toList (off + k) v l (by simp; omega)
    unfold patch
    congr 1
    simpa [Array.toList_setIfInBounds, Nat.add_assoc] using e

theorem fill_step (place : Nat → Option (Nat × Nat)) (cells : Array Value) (i off size : Nat) (v : Value) (rest : List (Nat × Value)) (hp : place i = some (off, size)) (hs : v.cells.size = size) (hfit : off + size ≤ cells.size) :
    Instr.fill place cells ((i, v) :: rest) = Instr.fill place (patch cells off v.cells.toList) rest := by
  have hf := fold_patch off v.cells.toList 0 cells (by simpa [hs] using hfit)
  simp only [Nat.add_zero] at hf
  have hc : (v.cells.size ≠ size || decide (off + v.cells.size > cells.size)) = false := by simp [hs]; omega
  rw [Instr.fill, hp]
  simp only [hc]
  rw [if_neg (by simp)]
  congr 1
  rw [← hf, ← Array.foldl_toList, Array.toList_zipIdx]

/-- The parts stand in order. -/
def inOrd : Nat → List (Nat × Operand) → Bool
  | _, [] => true
  | k, (i, _) :: r => Nat.beq i k && inOrd (k + 1) r

theorem fill_ord (sz : Nat) (f : Operand → Value) : ∀ (ps : List (Nat × Operand)) (k : Nat) (cells : Array Value), inOrd k ps = true → (∀ p ∈ ps, (f p.2).cells.size = sz) → (k + ps.length) * sz ≤ cells.size →
    ∃ r, Instr.fill (fun i => some (i * sz, sz)) cells (ps.map fun p => (p.1, f p.2)) = some r ∧ r.size = cells.size ∧ (∀ q, q < k * sz → r[q]? = cells[q]?) ∧
      ∀ (i : Nat) (p : Nat × Operand) (j : Nat), ps[i]? = some p → j < sz → r[(k + i) * sz + j]? = (f p.2).cells[j]?
  | [], k, cells, _, _, _ => ⟨cells, rfl, rfl, fun q hq => rfl, fun i p j hp => by simp at hp⟩
  | (i0, x) :: ps, k, cells, ho, hw, hfit => by
    simp only [inOrd, Bool.and_eq_true] at ho
    have hi : i0 = k := Nat.eq_of_beq_eq_true ho.1
    subst hi
    simp only [List.length_cons] at hfit
    have hx := hw (i0, x) (by simp)
    simp only at hx
    have hfit0 : i0 * sz + sz ≤ cells.size := by
      have := Nat.mul_le_mul_right sz (show i0 + 1 ≤ i0 + (ps.length + 1) by omega)
      rw [Nat.succ_mul] at this
      omega
    have hfit1 : i0 * sz + (f x).cells.toList.length ≤ cells.size := by simpa [hx] using hfit0
    obtain ⟨r, h1, h2, h3, h4⟩ := fill_ord sz f ps (i0 + 1) (patch cells (i0 * sz) (f x).cells.toList) ho.2 (fun p hp => hw p (by simp [hp])) (by rw [size_patch hfit1]; rw [show i0 + 1 + ps.length = i0 + (ps.length + 1) by omega]; exact hfit)
    refine ⟨r, ?_, by rw [h2, size_patch hfit1], fun q hq => ?_, fun i p j hp hj => ?_⟩
    · rw [List.map_cons, fill_step _ cells i0 (i0 * sz) sz (f x) _ rfl hx hfit0]; exact h1
    · rw [h3 q (by rw [Nat.succ_mul]; omega), patch_out hfit1 (.inl hq)]
    · cases i with
      | zero =>
        simp at hp
        subst hp
        rw [Nat.add_zero, h3 _ (by rw [Nat.succ_mul]; omega), patch_in hfit1 (by simp [hx, hj])]
        simp
      | succ i =>
        rw [show i0 + (i + 1) = i0 + 1 + i by omega]
        exact h4 i p j (by simpa using hp) hj

section
variable {P : Program} {T : Nat → TE}

/-- The widths of the elements. -/
def widths (sz : Nat) : List D → Prop → Prop
  | [], p => p
  | d :: ds, p => d.cells.length = sz ∧ widths sz ds p

theorem widths_spec {sz : Nat} : ∀ {ds : List D} {p : Prop}, widths sz ds p → (∀ d ∈ ds, d.cells.length = sz) ∧ p
  | [], p, h => ⟨by simp, h⟩
  | d :: ds, p, h => by
    obtain ⟨h1, h2⟩ := h
    obtain ⟨h3, h4⟩ := widths_spec h2
    exact ⟨by simpa [h1] using h3, h4⟩

/-- The values of a slice's elements as pure data. -/
def vElems : List V → (List D → Prop) → Prop
  | [], K => K []
  | v :: vs, K => vD v fun d => vElems vs fun ds => K (d :: ds)

theorem vElems_spec : ∀ {vs : List V} {K : List D → Prop}, vElems vs K → ∃ ds, K ds ∧ ds.length = vs.length ∧
    ∀ (β : Nat → Value) (u ok : Nat → Prop) (w : World) (j : Nat) val v d, vs[j]? = some v → ds[j]? = some d → RdV β u ok w val v → RdD ok w val d
  | [], K, h => ⟨[], h, rfl, fun β u ok w j val v d hv => by simp at hv⟩
  | v :: vs, K, h => by
    unfold vElems at h
    obtain ⟨x, h1, h2⟩ := vD_spec h
    obtain ⟨ds, h3, h4, h5⟩ := vElems_spec h1
    refine ⟨x :: ds, h3, by simp [h4], fun β u ok w j val v' d hv hd hr => ?_⟩
    cases j with
    | zero => simp at hv hd; subst hv; subst hd; exact h2 β u ok w val hr
    | succ j => exact h5 β u ok w j val v' d (by simpa using hv) (by simpa using hd) hr

def evBuildSlice (T : Nat → TE) (t len : Nat) (parts : List (Nat × Operand)) (vals : List V) (n : Nat) (K : KK) : Prop :=
  slcElem (T t) fun e => whenB (T e).known <| whenB (inOrd 0 parts) <| whenB (Nat.beq parts.length len) <| whenB (Nat.blt 0 (T e).size) <| whenB (Nat.ble (len * (T e).size) 16777216) <|
    match vals with
    | [] => K .emp [] [] []
    | vals => vElems vals fun ds => widths (T e).size ds (K (.sl n (T e).size 0 ds.length) [((n, 0), some (.arr (T e).size ds))] [] [n])

theorem evBuildSlice_sound (hT : TOK P T) {o : Oper} {t len : Nat} {parts : Array (Nat × Operand)} (ho : o.op = .buildSlice t len parts) {vals : List V} {h : Key → Option Res} {n : Nat} {K : KK} (hK : evBuildSlice T t len parts.toList vals n K) :
    ∃ x δ rd nw, K x δ rd nw ∧ OpSem P o vals h x δ rd nw := by
  obtain ⟨e, hk, hK⟩ := slcElem_spec hK
  obtain ⟨hkn, hK⟩ := whenB_spec hK
  obtain ⟨hord, hK⟩ := whenB_spec hK
  obtain ⟨hlen, hK⟩ := whenB_spec hK
  obtain ⟨hpos, hK⟩ := whenB_spec hK
  obtain ⟨hbig, hK⟩ := whenB_spec hK
  have hlen' : parts.toList.length = len := Nat.eq_of_beq_eq_true hlen
  have hpos' : 0 < (T e).size := Nat.le_of_ble_eq_true hpos
  have hbig' : len * (T e).size ≤ 16777216 := Nat.le_of_ble_eq_true hbig
  have hu := hT.slc hk
  obtain ⟨de, ie, hfe⟩ := hT.facts (TE.known_spec hkn)
  have hbig2 : ¬ (16777216 < len * (T e).size) := by omega
  -- the run
  have run : ∀ (ρ : Operand → Value) (w : World), (∀ p ∈ parts.toList, (ρ p.2).cells.size = (T e).size) → ∃ r : Array Value, r.size = len * (T e).size ∧
      (execOp ρ o).run P w = .ok (.value (.slice (some ⟨w.heap.size, 0, none⟩) len len)) (w.alloc (.cells r e)) ∧
      ∀ (i : Nat) (p : Nat × Operand) (j : Nat), parts.toList[i]? = some p → j < (T e).size → r[i * (T e).size + j]? = (ρ p.2).cells[j]? := fun ρ w hw => by
    rcases Nat.eq_zero_or_pos len with h0 | h0
    · have hp0 : parts = #[] := by
        have : parts.toList = [] := List.length_eq_zero_iff.1 (by omega)
        exact Array.toList_eq_nil_iff.1 this
      subst hp0
      subst h0
      refine ⟨#[], by simp, ?_, fun i p j hp => by simp at hp⟩
      simp [execOp, ho, Instr.buildSlice, run_underlying hu, hfe.sizeOf, newRow, Instr.fill, Array.range_zero']
    · have hne : len * (T e).size ≠ 0 := by have := Nat.mul_pos h0 hpos'; omega
      obtain ⟨r, f1, f2, _, f4⟩ := fill_ord (T e).size ρ parts.toList 0 ((Array.range (len * (T e).size)).map (fun q => (T e).zero.cells[q % (T e).zero.cells.size]!)) hord hw (by simp [hlen'])
      refine ⟨r, by simp [f2], ?_, fun i p j hp hj => by have := f4 i p j hp hj; simpa using this⟩
      have f1' : Instr.fill (fun i => some (i * (T e).size, (T e).size)) ((Array.range (len * (T e).size)).map (fun q => (T e).zero.cells[q % (T e).zero.cells.size]!)) (parts.map fun (p : Nat × Operand) => (p.1, ρ p.2)).toList = some r := by
        rw [Array.toList_map]; exact f1
      have hz : (zeroValue e).run P w = .ok (T e).zero w := by simp [zeroValue, typeInfo, hfe.info, hfe.zero]
      simp [execOp, ho, Instr.buildSlice, run_underlying hu, hfe.sizeOf, newRow, hbig2, hne, hz]
      have f1'' := f1'
      simp only [Array.toList_map] at f1''
      simp [f1'']
  split at hK
  · rename_i hvals
    refine ⟨_, _, _, _, hK, OpSem.of_run fun C β ok s a w hr g1 g2 g3 g4 g5 => ?_⟩
    have hp0 : parts.toList = [] := by
      have : (parts.toList.map (·.2)).map s.ev = [] := by simpa [ho, Op.operands] using g1
      simpa using this
    obtain ⟨r, r1, r2, _⟩ := run a.eval w (fun p hp => by rw [hp0] at hp; cases hp)
    have hl0 : len = 0 := by rw [← hlen', hp0]; rfl
    subst hl0
    exact ⟨_, _, .inl r2, β, _, hr.box g4 (.emp _)⟩
  · obtain ⟨ds, hK, h1, h2⟩ := vElems_spec hK
    obtain ⟨hw, hK⟩ := widths_spec hK
    refine ⟨_, _, _, _, hK, OpSem.of_run fun C β ok s a w hr g1 g2 g3 g4 g5 => ?_⟩
    simp only [ho, Op.operands] at g1 g5
    have hvl : vals.length = parts.toList.length := by rw [← g1]; simp
    have hget : ∀ (i : Nat) p d, parts.toList[i]? = some p → ds[i]? = some d → RdD ok w (a.eval p.2) d := fun i p d hp hd => by
      have hv : vals[i]? = some (s.ev p.2) := by rw [← g1]; simp [hp]
      exact h2 β s.used ok w i _ _ d hv hd (hr.eval p.2 (g5 p.2 (by simp; exact ⟨p.1, by have := List.mem_of_getElem? hp; simpa using this⟩)))
    have hwp : ∀ p ∈ parts.toList, (a.eval p.2).cells.size = (T e).size := fun p hp => by
      obtain ⟨i, hi⟩ := List.getElem?_of_mem hp
      have hil : i < ds.length := by rw [h1, hvl]; exact (List.getElem?_eq_some_iff.1 hi).1
      have hd : ds[i]? = some ds[i] := by simp
      rw [(hget i p _ hi hd).cellsOf.1]
      exact hw _ (by simp)
    obtain ⟨r, r1, r2, r3⟩ := run a.eval w hwp
    have hdl : ds.length = len := by rw [h1, hvl, hlen']
    have hlm : len ≤ maxLen := by
      have : len ≤ len * (T e).size := Nat.le_mul_of_pos_right len hpos'
      simp only [maxLen]; omega
    obtain ⟨β', hrel⟩ := hr.newArr (dst := o.dst) g4 (g3 n (by simp)) (cur := r) e (sz := (T e).size) (cap := len) (xs := ds) hpos' (by omega) hlm (fun i x hx => hw x (List.mem_of_getElem? hx)) (by rw [r1]; exact Nat.le_refl _) (fun i x j c hx hc => by
      have hil : i < parts.toList.length := by rw [hlen', ← hdl]; exact (List.getElem?_eq_some_iff.1 hx).1
      have hp : parts.toList[i]? = some parts.toList[i] := by simp
      have hj : j < (T e).size := by rw [← hw x (List.mem_of_getElem? hx)]; exact (List.getElem?_eq_some_iff.1 hc).1
      obtain ⟨q1, q2⟩ := (hget i _ x hp hx).cellsOf
      have hjc : j < (a.eval parts.toList[i].2).cells.size := by rw [q1, hw x (List.mem_of_getElem? hx)]; exact hj
      have hu0 : (a.eval parts.toList[i].2).cells[j]? = some ((a.eval parts.toList[i].2).cells[j]) := by simp
      obtain ⟨p1, p2⟩ := q2 j _ c hu0 hc
      exact ⟨_, by rw [r3 i _ j hp hj]; exact hu0, p1, p2⟩)
    rw [hdl] at hrel
    rw [hdl]
    exact ⟨_, _, .inl r2, β', ok, hrel⟩

/-! make -/

def evMakeSlice (T : Nat → TE) (t : Nat) (vals : List V) (n : Nat) (K : KK) : Prop :=
  slcElem (T t) fun e => whenB (T e).known <| whenB (Nat.blt 0 (T e).size) <|
    match vals with
    | [l, c] => vInt l fun _ li => vInt c fun _ ci => (0 ≤ li ∧ li ≤ ci ∧ ci ≤ 9223372036854775807 ∧ ((T e).bytes : Int) * ci ≤ 281474976710656) ∧
        vD (constV (T e).zero) fun d => whenB (okC (T e).zero) <| d.cells.length = (T e).size ∧ K (.sl n (T e).size 0 li.toNat) [((n, 0), some (.arr (T e).size (List.replicate li.toNat d)))] [] [n]
    | _ => False

theorem evMakeSlice_sound (hT : TOK P T) {o : Oper} {t : Nat} {l c : Operand} (ho : o.op = .makeSlice t l c) {vals : List V} {h : Key → Option Res} {n : Nat} {K : KK} (hK : evMakeSlice T t vals n K) :
    ∃ x δ rd nw, K x δ rd nw ∧ OpSem P o vals h x δ rd nw := by
  obtain ⟨e, hk, hK⟩ := slcElem_spec hK
  obtain ⟨hkn, hK⟩ := whenB_spec hK
  obtain ⟨hpos, hK⟩ := whenB_spec hK
  have hpos' : 0 < (T e).size := Nat.le_of_ble_eq_true hpos
  have hu := hT.slc hk
  obtain ⟨de, ie, hfe⟩ := hT.facts (TE.known_spec hkn)
  split at hK
  · rename_i vl vc
    obtain ⟨kl, li, rfl, hK2⟩ := vInt_spec hK
    obtain ⟨kc, ci, rfl, ⟨h0, hlc, h63, hb⟩, hK3⟩ := vInt_spec hK2
    obtain ⟨d, hK4, h1⟩ := vD_spec hK3
    obtain ⟨hz, hw, hK5⟩ := whenB_spec hK4
    refine ⟨_, _, _, _, hK5, OpSem.of_run fun C β ok s a w hr g1 g2 g3 g4 g5 => ?_⟩
    simp only [ho, Op.operands, List.map_cons, List.map_nil, List.cons.injEq, and_true] at g1 g5
    have hx := hr.eval l (g5 l (by simp))
    have hy := hr.eval c (g5 c (by simp))
    rw [g1.1] at hx
    rw [g1.2] at hy
    have hx' := hx.dInv
    have hy' := hy.dInv
    generalize hvl : a.eval l = vl at hx'
    generalize hvc : a.eval c = vc at hy'
    cases hx'
    cases hy'
    have hrun := run_make (P := P) w t e ie (T e).zero hu hfe.info hfe.zero kl kc li ci h0 hlc (by rw [hfe.bytes]; exact hb) h63
    have hzr := h1 β s.used ok w _ (rd_constV β s.used ok w (T e).zero hz)
    obtain ⟨q1, q2⟩ := hzr.cellsOf
    have hrel := hr.newArr (dst := o.dst) g4 (g3 n (by simp)) (cur := madeCells (T e).zero.cells (ci.toNat * ie.size)) e (sz := (T e).size) (cap := ci.toNat) (xs := List.replicate li.toNat d) hpos' (by simp; omega) (by simp only [maxLen]; omega)
      (fun i x hx => by have := List.mem_of_getElem? hx; rw [List.eq_of_mem_replicate this]; exact hw) (by rw [size_madeCells, hfe.size]; exact Nat.le_refl _) (fun i x j c hx hc => by
        have hxd : x = d := List.eq_of_mem_replicate (List.mem_of_getElem? hx)
        subst hxd
        have hi : i < li.toNat := by have := (List.getElem?_eq_some_iff.1 hx).1; simpa using this
        have hj : j < (T e).size := by rw [← hw]; exact (List.getElem?_eq_some_iff.1 hc).1
        have hq : i * (T e).size + j < ci.toNat * (T e).size := by
          have := elem_fits (off := j) (m := 1) (sz := (T e).size) (show i < ci.toNat by omega) (by omega); omega
        have hjz : j < (T e).zero.cells.size := by rw [hfe.zsize]; exact hj
        have hu0 : (T e).zero.cells[j]? = some ((T e).zero.cells[j]) := by simp [hjz]
        obtain ⟨p1, p2⟩ := q2 j _ c hu0 hc
        refine ⟨_, ?_, p1, p2⟩
        have hmod : (i * (T e).size + j) % (T e).zero.cells.size = j := by rw [hfe.zsize, Nat.mul_comm, Nat.mul_add_mod, Nat.mod_eq_of_lt hj]
        simp [madeCells, hfe.size, hq, hmod, hjz])
    obtain ⟨β', hrel⟩ := hrel
    simp only [List.length_replicate] at hrel
    exact ⟨_, _, .inl (by simp [execOp, ho, hvl, hvc, hrun]), β', ok, hrel⟩
  · exact hK.elim

end
end Go.Abs

/- The evaluator of one operation, continued: structs built, slices cut and appended to, lengths. -/
namespace Go.Abs
open Go Go.RowKit

def fieldAt3 (fs : List (Nat × Nat × Bool)) (f : Nat) (K : Nat → Nat → Bool → Prop) : Prop :=
  match fs, f with
  | (fo, fsz, fb) :: _, 0 => K fo fsz fb
  | _ :: fs, f + 1 => fieldAt3 fs f K
  | [], _ => False

theorem fieldAt3_spec : ∀ {fs : List (Nat × Nat × Bool)} {f : Nat} {K : Nat → Nat → Bool → Prop}, fieldAt3 fs f K → ∃ fo fsz fb, fs[f]? = some (fo, fsz, fb) ∧ K fo fsz fb
  | (fo, fsz, fb) :: fs, 0, K, h => ⟨fo, fsz, fb, rfl, h⟩
  | _ :: fs, f + 1, K, h => by
    unfold fieldAt3 at h
    obtain ⟨fo, fsz, fb, h1, h2⟩ := fieldAt3_spec h
    exact ⟨fo, fsz, fb, by simpa using h1, h2⟩
  | [], _, K, h => by unfold fieldAt3 at h; exact h.elim

/-- Cells put into a row. -/
def putAt : List V → Nat → List V → (List V → Prop) → Prop
  | cells, _, [], K => K cells
  | _ :: cells, 0, c :: cs, K => putAt cells 0 cs fun r => K (c :: r)
  | x :: cells, off + 1, cs, K => putAt cells off cs fun r => K (x :: r)
  | [], _, _ :: _, _ => False

theorem putAt_spec : ∀ (cells : List V) (off : Nat) (cs : List V) (K : List V → Prop), putAt cells off cs K → ∃ r, K r ∧ r.length = cells.length ∧ (cs = [] ∨ off + cs.length ≤ cells.length) ∧
    (∀ j, j < cs.length → r[off + j]? = cs[j]?) ∧ ∀ j, (j < off ∨ off + cs.length ≤ j) → r[j]? = cells[j]?
  | cells, off, [], K, h => by
    have h' : K cells := by unfold putAt at h; exact h
    exact ⟨cells, h', rfl, .inl rfl, fun j hj => by simp at hj, fun j _ => rfl⟩
  | x :: cells, 0, c :: cs, K, h => by
    unfold putAt at h
    obtain ⟨r, h1, h2, h3, h4, h5⟩ := putAt_spec cells 0 cs _ h
    refine ⟨c :: r, h1, by simp [h2], .inr (by rcases h3 with rfl | h3 <;> simp; simp at h3; omega), fun j hj => ?_, fun j hj => ?_⟩
    · cases j with
      | zero => rfl
      | succ j => have := h4 j (by simpa using hj); simpa using this
    · cases j with
      | zero => simp at hj
      | succ j => have := h5 j (by simp at hj ⊢; omega); simpa using this
  | x :: cells, off + 1, c :: cs, K, h => by
    unfold putAt at h
    obtain ⟨r, h1, h2, h3, h4, h5⟩ := putAt_spec cells off (c :: cs) _ h
    refine ⟨x :: r, h1, by simp [h2], .inr (by
      rcases h3 with h3 | h3
      · cases h3
      · simp at h3 ⊢; omega), fun j hj => ?_, fun j hj => ?_⟩
    · rw [show off + 1 + j = (off + j) + 1 by omega]
      have := h4 j hj; simpa using this
    · cases j with
      | zero => rfl
      | succ j => have := h5 j (by simp at hj ⊢; omega); simpa using this
  | [], _, _ :: _, K, h => by unfold putAt at h; exact h.elim

def fillV (fs : List (Nat × Nat × Bool)) : List V → List (Nat × Operand) → List V → (List V → Prop) → Prop
  | cells, (i, _) :: ps, v :: vs, K => fieldAt3 fs i fun fo fsz fb => vCells fb v fun cs => whenB (Nat.blt 0 fsz) (whenB (Nat.beq cs.length fsz) (putAt cells fo cs fun r => fillV fs r ps vs K))
  | cells, [], [], K => K cells
  | _, _, _, _ => False

theorem fillV_spec (fs : List (Nat × Nat × Bool)) (ρ : Operand → Value) (β : Nat → Value) (u ok : Nat → Prop) (w : World) : ∀ (ps : List (Nat × Operand)) (vs : List V) (cells : List V) (vcells : Array Value) (K : List V → Prop),
    fillV fs cells ps vs K → vcells.size = cells.length → (∀ (j : Nat) u0 c, vcells[j]? = some u0 → cells[j]? = some c → RdV β u ok w u0 c ∧ u0.oneCell' = true) →
    (∀ (i : Nat) p v, ps[i]? = some p → vs[i]? = some v → RdV β u ok w (ρ p.2) v) →
    ∃ r rv, K r ∧ Instr.fill (fun i => (fs[i]?).map fun x => (x.1, x.2.1)) vcells (ps.map fun p => (p.1, ρ p.2)) = some rv ∧ rv.size = r.length ∧ r.length = cells.length ∧ ∀ (j : Nat) u0 c, rv[j]? = some u0 → r[j]? = some c → RdV β u ok w u0 c ∧ u0.oneCell' = true
  | [], [], cells, vcells, K, h, hs, hc, _ => ⟨cells, vcells, h, rfl, hs, rfl, hc⟩
  | (i, x) :: ps, v :: vs, cells, vcells, K, h, hs, hc, hv => by
    unfold fillV at h
    obtain ⟨fo, fsz, fb, h1, h⟩ := fieldAt3_spec h
    obtain ⟨cs, h, h2⟩ := vCells_spec h
    obtain ⟨hpos, h⟩ := whenB_spec h
    have hpos' : 0 < fsz := Nat.le_of_ble_eq_true hpos
    obtain ⟨hl, h⟩ := whenB_spec h
    have hl' : cs.length = fsz := Nat.eq_of_beq_eq_true hl
    obtain ⟨r, h, g1, g2, g3, g4⟩ := putAt_spec _ _ _ _ h
    obtain ⟨q1, q2⟩ := h2 β u ok w (ρ x) (hv 0 (i, x) v rfl rfl)
    have hcs : (ρ x).cells.size = fsz := by rw [q1, hl']
    rcases g2 with g2 | g2
    · subst g2
      simp at hl'
      omega
    · have hfit : fo + fsz ≤ vcells.size := by rw [hs, ← hl']; exact g2
      have hfit' : fo + (ρ x).cells.toList.length ≤ vcells.size := by simpa [hcs] using hfit
      obtain ⟨r', rv, p1, p2, p3, p4, p5⟩ := fillV_spec fs ρ β u ok w ps vs r (patch vcells fo (ρ x).cells.toList) K h (by rw [size_patch hfit', hs, g1]) (fun j u0 c hu hcc => by
        by_cases hj : fo ≤ j ∧ j < fo + fsz
        · have e1 := patch_in hfit' (i := j - fo) (by simp [hcs]; omega)
          rw [show fo + (j - fo) = j by omega] at e1
          rw [e1] at hu
          have e2 := g3 (j - fo) (by omega)
          rw [show fo + (j - fo) = j by omega] at e2
          rw [e2] at hcc
          exact q2 (j - fo) u0 c (by simpa using hu) hcc
        · rw [patch_out hfit' (by simp [hcs]; omega)] at hu
          rw [g4 j (by omega)] at hcc
          exact hc j u0 c hu hcc) (fun i p v hp hv' => hv (i + 1) p v (by simpa using hp) (by simpa using hv'))
      refine ⟨r', rv, p1, ?_, p3, by rw [p4, g1], p5⟩
      rw [List.map_cons, fill_step _ vcells i fo fsz (ρ x) _ (by simp [h1]) hcs hfit]
      exact p2
  | [], v :: vs, cells, vcells, K, h, _, _, _ => by unfold fillV at h; exact h.elim
  | p :: ps, [], cells, vcells, K, h, _, _, _ => by unfold fillV at h; exact h.elim

section
variable {P : Program} {T : Nat → TE}

def TE.isStr (e : TE) : Bool := match e.k with | .agg _ => true | _ => false
def evBuild (te : TE) (parts : List (Nat × Operand)) (vals : List V) (K : KK) : Prop :=
  whenB te.isStr <| whenB (te.zero.cells.toList.all okC1) <| fillV te.fields (te.zero.cells.toList.map cellC) parts vals fun r => K (mkAgg r) [] [] []

theorem evBuild_sound (hT : TOK P T) {o : Oper} {t : Nat} {parts : Array (Nat × Operand)} (ho : o.op = .build t parts) {vals : List V} {h : Key → Option Res} {K : KK} (hK : evBuild (T t) parts.toList vals K) :
    ∃ x δ rd nw, K x δ rd nw ∧ OpSem P o vals h x δ rd nw := by
  obtain ⟨hag, hK⟩ := whenB_spec hK
  unfold TE.isStr at hag
  obtain ⟨hz, hK⟩ := whenB_spec hK
  have hz' : ∀ v ∈ (T t).zero.cells.toList, okC1 v = true := List.all_eq_true.1 hz
  obtain ⟨d, inf, hf⟩ := hT.facts (t := t) (by intro e0; rw [e0] at hag; cases hag)
  -- the fields' places, as the model takes them
  obtain ⟨fields, rfl, hfs, hall⟩ : ∃ fields, d = .struct fields ∧ (T t).fields = fields.toList.map (fun f => (f.offset, P.cellsOf f.type, aggB P f.type)) ∧ ∀ f ∈ fields.toList, (P.info? f.type).isSome = true := by
    have hk := hf.k
    cases d
    case struct fs =>
      simp only [kOf] at hk
      split at hk
      · rename_i hall
        exact ⟨fs, rfl, by unfold TE.fields; rw [hk], fun f hf => ((Bool.and_eq_true _ _).mp (List.all_eq_true.1 hall f hf)).1⟩
      · rw [hk] at hag; cases hag
    case array n e => (simp only [kOf] at hk; split at hk <;> (rw [hk] at hag; cases hag))
    all_goals (simp [kOf] at hk; rw [hk] at hag; cases hag)
  have hplaces : ∀ (fs : List Field), (∀ f ∈ fs, (P.info? f.type).isSome = true) → fs.mapM (fun f => (P.info? f.type).map fun i => (f.offset, i.size)) = some (fs.map fun f => (f.offset, P.cellsOf f.type)) := by
    intro fs
    induction fs with
    | nil => intro _; rfl
    | cons f fs ih =>
      intro hs
      have h1 := hs f (by simp)
      obtain ⟨i, hi⟩ := Option.isSome_iff_exists.1 h1
      simp [List.mapM_cons, hi, ih (fun g hg => hs g (by simp [hg])), Program.cellsOf]
  -- what the result is does not hang on the memory
  have key : ∃ r, K (mkAgg r) [] [] [] ∧ ∀ (ρ : Operand → Value) (β : Nat → Value) (u ok : Nat → Prop) (w : World), (∀ (i : Nat) p v, parts.toList[i]? = some p → vals[i]? = some v → RdV β u ok w (ρ p.2) v) →
      ∃ rv, Instr.fill (fun i => ((T t).fields[i]?).map fun x => (x.1, x.2.1)) (T t).zero.cells (parts.toList.map fun p => (p.1, ρ p.2)) = some rv ∧ rv.size = r.length ∧ ∀ (j : Nat) u0 c, rv[j]? = some u0 → r[j]? = some c → RdV β u ok w u0 c ∧ u0.oneCell' = true := by
    have shape : ∀ (ps : List (Nat × Operand)) (vs cells : List V) (K : List V → Prop), fillV (T t).fields cells ps vs K → ∃ r, K r ∧ fillV (T t).fields cells ps vs fun r' => r' = r := by
      intro ps
      induction ps with
      | nil =>
        intro vs cells K hK
        cases vs with
        | nil => exact ⟨cells, hK, rfl⟩
        | cons v vs => exact hK.elim
      | cons p ps ih =>
        intro vs cells K hK
        cases vs with
        | nil => exact hK.elim
        | cons v vs =>
          obtain ⟨i, x⟩ := p
          -- a predicate transformer that only chooses: what it grants, it grants of one row
          have f3 : ∀ (fs : List (Nat × Nat × Bool)) (f : Nat) (K : Nat → Nat → Bool → Prop), fieldAt3 fs f K → ∃ a b c, K a b c ∧ ∀ K' : Nat → Nat → Bool → Prop, K' a b c → fieldAt3 fs f K' := by
            intro fs
            induction fs with
            | nil => intro f K hK; unfold fieldAt3 at hK; exact hK.elim
            | cons y fs ihf =>
              intro f K hK
              obtain ⟨fo, fsz, fb⟩ := y
              cases f with
              | zero => exact ⟨fo, fsz, fb, hK, fun K' h => h⟩
              | succ f =>
                obtain ⟨a, b, c, h1, h2⟩ := ihf f K hK
                exact ⟨a, b, c, h1, fun K' h => h2 K' h⟩
          have mD : ∀ (ds : List D) (K : List V → Prop), mapD ds K → K (ds.map .d) := fun ds K h => mapD_spec h
          have mD' : ∀ (ds : List D) (K : List V → Prop), K (ds.map .d) → mapD ds K := by
            intro ds
            induction ds with
            | nil => intro K h; exact h
            | cons d ds ihd => intro K h; exact ihd _ h
          have vC : ∀ (fb : Bool) (v : V) (K : List V → Prop), vCells fb v K → ∃ cs, K cs ∧ ∀ K' : List V → Prop, K' cs → vCells fb v K' := by
            intro fb v K hK
            unfold vCells at hK
            split at hK
            · split at hK
              · exact ⟨_, hK, fun K' h => h⟩
              · obtain ⟨ds, rfl, hK2⟩ := asAgg_spec hK
                exact ⟨_, mD _ _ hK2, fun K' h => mD' _ _ h⟩
              · exact hK.elim
            · split at hK
              · exact ⟨_, hK.2, fun K' h => ⟨hK.1, h⟩⟩
              all_goals first | exact hK.elim | exact ⟨_, hK, fun K' h => h⟩
          have pA : ∀ (cells : List V) (off : Nat) (cs : List V) (K : List V → Prop), putAt cells off cs K → ∃ r, K r ∧ ∀ K' : List V → Prop, K' r → putAt cells off cs K' := by
            intro cells
            induction cells with
            | nil =>
              intro off cs K hK
              cases cs with
              | nil => unfold putAt at hK; exact ⟨_, hK, fun K' h => by unfold putAt; exact h⟩
              | cons c cs => unfold putAt at hK; exact hK.elim
            | cons y cells ihc =>
              intro off cs K hK
              cases cs with
              | nil => unfold putAt at hK; exact ⟨_, hK, fun K' h => by unfold putAt; exact h⟩
              | cons c cs =>
                cases off with
                | zero =>
                  unfold putAt at hK
                  obtain ⟨r, h1, h2⟩ := ihc 0 cs _ hK
                  exact ⟨_, h1, fun K' h => by unfold putAt; exact h2 _ h⟩
                | succ off =>
                  unfold putAt at hK
                  obtain ⟨r, h1, h2⟩ := ihc off (c :: cs) _ hK
                  exact ⟨_, h1, fun K' h => by unfold putAt; exact h2 _ h⟩
          unfold fillV at hK
          obtain ⟨a, b, c, h1, h1'⟩ := f3 _ _ _ hK
          obtain ⟨cs, h2, h2'⟩ := vC _ _ _ h1
          obtain ⟨hb1, h3⟩ := whenB_spec h2
          obtain ⟨hb2, h4⟩ := whenB_spec h3
          obtain ⟨r0, h5, h5'⟩ := pA _ _ _ _ h4
          obtain ⟨r, h6, h6'⟩ := ih vs r0 K h5
          refine ⟨r, h6, ?_⟩
          unfold fillV
          refine h1' _ (h2' _ ?_)
          rw [hb1, hb2]
          exact h5' _ h6'
    obtain ⟨r, h1, h2⟩ := shape _ _ _ _ hK
    refine ⟨r, h1, fun ρ β u ok w hv => ?_⟩
    obtain ⟨r', rv, p1, p2, p3, p4, p5⟩ := fillV_spec (T t).fields ρ β u ok w parts.toList vals _ (T t).zero.cells _ h2 (by simp) (fun j u0 c hu hc => by
      have hm : u0 ∈ (T t).zero.cells.toList := by have := Array.mem_of_getElem? hu; simpa using this
      simp [hu] at hc
      subst hc
      have := hz' u0 hm
      exact ⟨rd_cellC _ _ _ _ _ this, by cases u0 <;> simp_all [okC1, Value.oneCell']⟩) hv
    subst p1
    exact ⟨rv, p2, p3, p5⟩
  obtain ⟨r, h1, h2⟩ := key
  refine ⟨_, _, _, _, h1, OpSem.of_val fun β u ok w ρ e g1 g2 g3 => ?_⟩
  simp only [ho, Op.operands] at g1 g2
  obtain ⟨rv, p1, p2, p3⟩ := h2 ρ β u ok w (fun i p v hp hv => by
    have hv' : v = e p.2 := by
      rw [← g2] at hv
      simp [hp] at hv
      exact hv.symm
    rw [hv']
    exact g1 p.2 (by simp; exact ⟨p.1, by have := List.mem_of_getElem? hp; simpa using this⟩))
  have hb : P.built t (parts.map fun (p : Nat × Operand) => (p.1, ρ p.2)).toList = some rv := by
    unfold Program.built
    rw [hf.info, hf.und]
    simp only [hf.zero, hplaces _ hall]
    rw [Array.toList_map]
    rw [← p1]
    congr 1
    funext i
    simp [hfs]
    cases fields[i]? <;> rfl
  exact ⟨.agg rv, by simp [execOp, ho, run_build (P := P) w t _ rv hb], rd_mkAgg p2 (fun j v c hv hc => (p3 j v c hv hc).1) (fun j v hv => by
    have hj : j < r.length := by rw [← p2]; exact (Array.getElem?_eq_some_iff.1 hv).1
    exact (p3 j v r[j] hv (by simp)).2)⟩

end
end Go.Abs
